/- No plan has fewer late days than the best one: no condition. -/
import Derived.KernelRfl
import Derived.Test.YtcgpibbbkdhpeaaRows
import Derived.WalkKit
import Derived.ProofKit
import Derived.OpenShut
import Derived.ShutString
import Derived.ChangeOld
import Derived.Below
import Derived.SizedLaws
import Derived.Carry
import Derived.ChangeVars
import Derived.Test.YtcgpibbbkdhpeaaZFnLoomPlans6
namespace Go.Proofs.Ytcgpibbbkdhpeaa.Q
open Go.RowKit Go.Proofs.YtcgpibbbkdhpeaaW.PrintWords Go.Proofs.YtcgpibbbkdhpeaaW.PrintLast Go.Proofs.YtcgpibbbkdhpeaaW.PrintMore
set_option linter.unusedVariables false
set_option linter.unusedSimpArgs false

/-! ### impl_NarrowestFor: function 24 -/
mutual
def impl_NarrowestFor.j0 : Nat → List (S51) → List Int → Bool → Option (List Int × Bool)
 | 0, _, _, _ => none
 | k + 1, x0, x1, x19 => if x19 = true then (some (([] : List Int), false)) else (impl_NarrowestFor.l0 k x1 (([] : List Int)) x0 (x0.length : Int) 0)
def impl_NarrowestFor.l0 : Nat → List Int → List Int → List (S51) → Int → Int → Option (List Int × Bool)
 | 0, _, _, _, _, _ => none
 | k + 1, x1, x6, x21, x22, x23 => if x23 < x22 then (if 0 ≤ x23 then (if x23 < (x21.length : Int) then (impl_NarrowestFor.l1 k x1 x6 (-1) x21 x22 x23 x1 (x1.length : Int) 0 ((rd_T51 x21 x23).f0) ((rd_T51 x21 x23).f1) ((rd_T51 x21 x23).f2) ((rd_T51 x21 x23).f3) ((rd_T51 x21 x23).f4)) else (none)) else (none)) else (some (x6, true))
def impl_NarrowestFor.l1 : Nat → List Int → List Int → Int → List (S51) → Int → Int → List Int → Int → Int → Int → Int → Int → Int → Int → Option (List Int × Bool)
 | 0, _, _, _, _, _, _, _, _, _, _, _, _, _, _ => none
 | k + 1, x1, x6, x9, x21, x22, x23, x27, x28, x29, x368000, x368001, x368002, x368003, x368004 => if x29 < x28 then (if 0 ≤ x29 then (if x29 < (x27.length : Int) then (if (rd x27 x29) ≥ x368001 then (if x9 < 0 then (impl_NarrowestFor.l1 k x1 x6 x29 x21 x22 x23 x27 x28 (wrap64 (x29 + 1)) x368000 x368001 x368002 x368003 x368004) else (if 0 ≤ x9 then (if x9 < (x1.length : Int) then (if (rd x27 x29) < (rd x1 x9) then (impl_NarrowestFor.l1 k x1 x6 x29 x21 x22 x23 x27 x28 (wrap64 (x29 + 1)) x368000 x368001 x368002 x368003 x368004) else (impl_NarrowestFor.l1 k x1 x6 x9 x21 x22 x23 x27 x28 (wrap64 (x29 + 1)) x368000 x368001 x368002 x368003 x368004)) else (none)) else (none))) else (impl_NarrowestFor.l1 k x1 x6 x9 x21 x22 x23 x27 x28 (wrap64 (x29 + 1)) x368000 x368001 x368002 x368003 x368004)) else (none)) else (none)) else (if x9 < 0 then (some (([] : List Int), false)) else (if x6.length < 17592186044416 then (impl_NarrowestFor.l0 k x1 (x6 ++ [x9]) x21 x22 (wrap64 (x23 + 1))) else (none)))
end
def impl_NarrowestFor.f (k : Nat) (l0 : List (S51)) (l1 : List Int) : Option (List Int × Bool) := (impl_AreJobs.f k l0).bind fun t361 => (if t361 = true then ((impl_areJobLooms.f l1).bind fun t362 => (impl_NarrowestFor.j0 k l0 l1 (!t362))) else (impl_NarrowestFor.j0 k l0 l1 true))
set_option maxHeartbeats 8000000 in
set_option maxRecDepth 100000 in
theorem impl_NarrowestFor.calls (k : Nat) (A0 : Option Addr) (c0 : Nat) (l0 : List (S51)) (A1 : Option Addr) (c1 : Nat) (l1 : List Int) (r1 : List Int) (r2 : Bool) (w : World) (hr0 : Kd.C k51 w A0 l0.length l0) (hc0 : l0.length ≤ c0) (hr1 : Kd.C (Kd.int .i64) w A1 l1.length l1) (hc1 : l1.length ≤ c1) (h : impl_NarrowestFor.f k l0 l1 = some (r1, r2)) :
  Calls Try.prog 24 #[.slice A0 l0.length c0, .slice A1 l1.length c1] w fun e w' => ∃ v0_ : Value, e = .returned (.tuple #[v0_, .bool r2]) ∧ Kd.R (Kd.int .i64) 3 w' w.heap.size (fun _ => True) v0_ r1 ∧ Below w.heap.size w w' := by
 have hu51 := Try.underlying51
 have HR0 := Aside0.mk hr0
 have HC0 := Aside0.mk hc0
 clear hr0 hc0
 have HR1 := Aside0.mk hr1
 have HC1 := Aside0.mk hc1
 clear hr1 hc1
 have HB := Aside0.mk (Below.refl w.heap.size w)
 have H : ((impl_AreJobs.f k l0).bind fun t361 => (if t361 = true then ((impl_areJobLooms.f l1).bind fun t362 => (impl_NarrowestFor.j0 k l0 l1 (!t362))) else (impl_NarrowestFor.j0 k l0 l1 true))) = some (r1, r2) := h
 clear h
 have HC3 := Aside0.mk H
 clear H
 go_enter Try.func24, Try.ntmps24
 go_upto_region 1 with (fail)
 go_cut [19] (fun v19 wc => ∃ (kq : Nat) (x19_2 : Bool), v19 = .bool x19_2 ∧ Aside0 (impl_NarrowestFor.j0 kq l0 l1 x19_2 = some (r1, r2)) ∧ Aside0 (kq ≤ k) ∧ Aside0 (Below w.heap.size w wc))
 case first =>
  have H := HC3.out
  clear HC3
  replace H := Option.bind_eq_some_iff.mp H
  obtain ⟨t361, A40, H⟩ := H
  have A4 := Aside0.mk A40
  clear A40
  by_cases c5 : t361 = true
  ·subst c5
   rw [if_pos rfl] at H
   replace H := Option.bind_eq_some_iff.mp H
   obtain ⟨t362, A60, H⟩ := H
   have A6 := Aside0.mk A60
   clear A60
   have H' := Aside0.mk H
   clear H
   go_wp2_with (first | ((with_reducible refine gate_callee (f := 17) rfl ?_); refine goesL_ (some 13) rfl rfl Try.func17 (by kernel_rfl) rfl #[.slice A0 l0.length c0] rfl (by (try simp only [List.map_toArray, List.map_cons, List.map_nil]); first | done | rfl | (simp only [List.length_drop, List.length_take]; rfl)) ?_; (with_reducible refine (impl_AreJobs.calls k _ _ l0 true _ ?side1 ?side2 A4.out).mono ?_); (case side1 => repeat (first | exact (Kd.C_below HR0.out HB.out) | (with_reducible refine Kd.C_alloc ?_ _) | (with_reducible refine Kd.C_drewN ?_ _) | (with_reducible refine Kd.C_drew ?_))); (case side2 => exact HC0.out); rintro e w7 ⟨rfl, hb⟩; refine ⟨_, rfl, ?_⟩; have n0_ := Aside0.mk (below_step (by repeat (first | (with_reducible first | exact HB.out | apply below_alloc | apply pw_below_drewN | apply below_drew1) | exact HB.out)) hb); clear HB; have HB := n0_; clear n0_; (try clear hb); (try clear hb2); (try clear hk); (try clear hi)) | (go_at_call 56; (with_reducible refine (impl_areJobLooms.calls _ _ l1 t362 _ ?side1 ?side2 A6.out).mono ?_); (case side1 => repeat (first | exact (Kd.C_below HR1.out HB.out) | (with_reducible refine Kd.C_alloc ?_ _) | (with_reducible refine Kd.C_drewN ?_ _) | (with_reducible refine Kd.C_drew ?_))); (case side2 => exact HC1.out); rintro e w8 ⟨rfl, hb⟩; have n0_ := Aside0.mk (below_step (by repeat (first | (with_reducible first | exact HB.out | apply below_alloc | apply pw_below_drewN | apply below_drew1) | exact HB.out)) hb); clear HB; have HB := n0_; clear n0_; (try clear hb); (try clear hb2); (try clear hk); (try clear hi)))
   go_meet
   case rel => exact ⟨_, (!t362), (by first | rfl | (simp; done) | (simp [*]; done)), H', ⟨by first | omega | exact Nat.le_refl _⟩, ⟨by repeat (first | (with_reducible first | exact HB.out | apply below_alloc | apply pw_below_drewN | apply below_drew1) | exact HB.out)⟩⟩
  ·replace c5 := Bool.eq_false_iff.mpr c5
   subst c5
   rw [if_neg (show ¬ (false = true) by decide)] at H
   have H' := Aside0.mk H
   clear H
   go_wp2_with (first | ((with_reducible refine gate_callee (f := 17) rfl ?_); refine goesL_ (some 13) rfl rfl Try.func17 (by kernel_rfl) rfl #[.slice A0 l0.length c0] rfl (by (try simp only [List.map_toArray, List.map_cons, List.map_nil]); first | done | rfl | (simp only [List.length_drop, List.length_take]; rfl)) ?_; (with_reducible refine (impl_AreJobs.calls k _ _ l0 false _ ?side1 ?side2 A4.out).mono ?_); (case side1 => repeat (first | exact (Kd.C_below HR0.out HB.out) | (with_reducible refine Kd.C_alloc ?_ _) | (with_reducible refine Kd.C_drewN ?_ _) | (with_reducible refine Kd.C_drew ?_))); (case side2 => exact HC0.out); rintro e w9 ⟨rfl, hb⟩; refine ⟨_, rfl, ?_⟩; have n0_ := Aside0.mk (below_step (by repeat (first | (with_reducible first | exact HB.out | apply below_alloc | apply pw_below_drewN | apply below_drew1) | exact HB.out)) hb); clear HB; have HB := n0_; clear n0_; (try clear hb); (try clear hb2); (try clear hk); (try clear hi)))
   go_meet
   case rel => exact ⟨_, (true), (by first | rfl | (simp; done) | (simp [*]; done)), H', ⟨by first | omega | exact Nat.le_refl _⟩, ⟨by repeat (first | (with_reducible first | exact HB.out | apply below_alloc | apply pw_below_drewN | apply below_drew1) | exact HB.out)⟩⟩
 case rest =>
  clear HC3
  try clear c1
  try clear c2
  try clear p2
  try clear c5
  obtain ⟨kq, x19_2, rfl, HA, HJ2, HB⟩ := hcut
  cases kq with
  | zero => exact absurd HA.out (by simp [impl_NarrowestFor.j0])
  | succ kj2 =>
   have H := HA.out
   clear HA
   simp only [impl_NarrowestFor.j0] at H
   by_cases c10 : x19_2 = true
   ·subst c10
    rw [if_pos rfl] at H
    simp only [Option.some.injEq, Prod.mk.injEq] at H
    obtain ⟨rfl, rfl⟩ := H
    go_wp2
    go_ret2
    exact ⟨_, by first | rfl | (simp [errW_none, errW_some] <;> rfl) | (simp [*, errW_none, errW_some] <;> rfl) | (simp [wrap64]; done), by first | exact Kd.R_nil _ _ _ _ _ | exact Kd.N_nil _ _ _ _ _ | exact Kd.V_nil _ _ _ _ _ | exact Kd.Q_nil _ _ _ _ _ | exact Kd.S_nil _ _ _ _ _, by repeat (first | (with_reducible first | exact HB.out | apply below_alloc | apply pw_below_drewN | apply below_drew1) | exact HB.out)⟩
   ·replace c10 := Bool.eq_false_iff.mpr c10
    subst c10
    rw [if_neg (show ¬ (false = true) by decide)] at H
    obtain ⟨y363, hy363⟩ : ∃ y_ : List Int, y_ = (([] : List Int)) := ⟨_, rfl⟩
    replace H : (impl_NarrowestFor.l0 kj2 l1 y363 l0 (l0.length : Int) 0) = some (r1, r2) := by first | (rw [hy363]; with_reducible exact H) | (have H2_ := (Option.bind_some _ _).symm.trans H; rw [hy363]; with_reducible exact H2_) | (have H2_ := (Option.bind_some _ _).symm.trans H; with_reducible exact H2_) | with_reducible exact H | (rw [hy363]; exact H) | exact H
    have Ny363 := Aside0.mk hy363
    clear hy363
    have H' := Aside0.mk H
    clear H
    go_wp2_with (first | ((with_reducible refine gate_dst (N := 20) rfl ?_); refine Kd.R_lit (Kd.int .i64) _ 3 ?hg (N := 20) ?hd (xs := ([] : List Int)) (inner := []) (ok := fun _ => True) (okp := fun _ => True) ?hr ?hp (fun _ hk => hk) trivial (Below.refl _ _) (Nat.le_refl _) (by simp) ?_; (case hd => rfl); (case hg => rfl); (case hr => first | (go_simp; done) | (go_simp; rfl)); (case hp => exact (Reps.none _ _)); intro v364 w11 ho12 hb hg_ hnew_; clear hg_ hnew_; (first | rw [← Ny363.out] at ho12 | (simp only [Int.reduceToNat] at ho12; rw [← Ny363.out] at ho12)); have n0_ := Aside0.mk (Kd.R_lower ho12 (below_size (by repeat (first | (with_reducible first | exact HB.out | apply below_alloc | apply pw_below_drewN | apply below_drew1) | exact HB.out)))); have n1_ := Aside0.mk (below_step (by repeat (first | (with_reducible first | exact HB.out | apply below_alloc | apply pw_below_drewN | apply below_drew1) | exact HB.out)) hb); clear HB; have HO365 := n0_; have HB := n1_; clear n0_ n1_; clear hb ho12))
    go_loopg [6, 23] kj2 (fun kq v6 v23 w' => ∃ (x6_2 : List Int) (x23_2 : Int), v23 = .int .i64 x23_2 ∧ Aside0 (impl_NarrowestFor.l0 kq l1 x6_2 l0 (l0.length : Int) x23_2 = some (r1, r2)) ∧ Aside0 (kq ≤ kj2) ∧ Aside0 (Kd.R (Kd.int .i64) 3 w' w.heap.size (fun _ => True) v6 x6_2) ∧ Aside0 (Below w.heap.size w w'))
    case atStart => exact ⟨(y363), (0), (by first | rfl | (simp; done) | (simp [*]; done)), H', ⟨Nat.le_refl _⟩, ⟨by (with_reducible repeat (first | apply Kd.R_alloc | apply Kd.R_drewN | apply Kd.R_drew)); exact HO365.out⟩, ⟨by repeat (first | (with_reducible first | exact HB.out | apply below_alloc | apply pw_below_drewN | apply below_drew1) | exact HB.out)⟩⟩
    case round =>
     clear H'
     try clear c1
     try clear c2
     try clear p2
     try clear c5
     try clear p6
     try clear c10
     try clear p2
     obtain ⟨x6_2, x23_2, rfl, HA, HK2, HO_6, HB⟩ := hrel
     cases gk with
     | zero => exact absurd HA.out (by simp [impl_NarrowestFor.l0])
     | succ k2 =>
      have H := HA.out
      clear HA
      simp only [impl_NarrowestFor.l0] at H
      by_cases c13 : x23_2 < (l0.length : Int)
      ·rw [if_pos c13] at H
       have c13b0 : decide (x23_2 < (l0.length : Int)) = true := decide_eq_true c13
       clear c13
       by_cases c14 : 0 ≤ x23_2
       ·rw [if_pos c14] at H
        have c14b0 : decide (0 ≤ x23_2) = true := decide_eq_true c14
        clear c14
        by_cases c15 : x23_2 < (l0.length : Int)
        ·rw [if_pos c15] at H
         have c15b0 : decide (x23_2 < (l0.length : Int)) = true := decide_eq_true c15
         clear c15
         have H' := Aside0.mk H
         clear H
         have p366 : 0 ≤ (x23_2 : Int) := of_decide_eq_true (by first | (with_reducible assumption) | assumption)
         have q366 : x23_2 < (l0.length : Int) := of_decide_eq_true (by first | (with_reducible assumption) | assumption)
         obtain ⟨ad366, e366, hx366_0, hx366_1, hx366_2, hx366_3, hx366_4⟩ := at_T51 HR0.out x23_2 p366 q366
         cases e366
         replace hx366_0 := (HB.out.cell (World.block_lt_of_cell? w _ hx366_0)).trans hx366_0
         replace hx366_1 := (HB.out.cell (World.block_lt_of_cell? w _ hx366_1)).trans hx366_1
         replace hx366_2 := (HB.out.cell (World.block_lt_of_cell? w _ hx366_2)).trans hx366_2
         replace hx366_3 := (HB.out.cell (World.block_lt_of_cell? w _ hx366_3)).trans hx366_3
         replace hx366_4 := (HB.out.cell (World.block_lt_of_cell? w _ hx366_4)).trans hx366_4
         replace p366 := eq_true p366
         replace q366 := eq_true q366
         go_wp2_with (first | ((with_reducible refine gate_dst (N := 8) rfl ?_); refine box_event ?hg (N := 8) ?hd (cs := #[.int .i64 0, .int .i64 0, .int .i64 0, .int .i64 0, .int .i64 0]) (t := 51) ?hr ?_; (case hd => rfl); (case hg => rfl); (case hr => first | (go_simp; done) | (go_simp; rfl)); intro gb367 hg w16 hbox hb; have n0_ := Aside0.mk (Kd.R_below (by (with_reducible repeat (first | apply Kd.R_alloc | apply Kd.R_drewN | apply Kd.R_drew)); exact HO_6.out) hb); have n1_ := Aside0.mk (below_step (by repeat (first | (with_reducible first | exact HB.out | apply below_alloc | apply pw_below_drewN | apply below_drew1) | exact HB.out)) hb); have n2_ := Aside0.mk (hbox); have n3_ := Aside0.mk ((by rw [hg]; exact (below_size (by repeat (first | (with_reducible first | exact HB.out | apply below_alloc | apply pw_below_drewN | apply below_drew1) | exact HB.out))) : w.heap.size ≤ gb367)); have n4_ := Aside0.mk ((by rw [hg]; exact (below_size (by repeat (first | (with_reducible first | exact HB.out | apply below_alloc | apply pw_below_drewN | apply below_drew1) | exact HB.out))) : w.heap.size ≤ gb367)); clear HO_6; clear HB; have HO_6 := n0_; have HB := n1_; have BK367 := n2_; have GW367 := n3_; have GE367 := n4_; clear n0_ n1_ n2_ n3_ n4_; clear hb hbox hg; have hcz17_0 : w16.cell? ⟨gb367, 0, none⟩ = some (.int .i64 0) := (blk_cell BK367.out 0).trans rfl; have hcz17_1 : w16.cell? ⟨gb367, 1, none⟩ = some (.int .i64 0) := (blk_cell BK367.out 1).trans rfl; have hcz17_2 : w16.cell? ⟨gb367, 2, none⟩ = some (.int .i64 0) := (blk_cell BK367.out 2).trans rfl; have hcz17_3 : w16.cell? ⟨gb367, 3, none⟩ = some (.int .i64 0) := (blk_cell BK367.out 3).trans rfl; have hcz17_4 : w16.cell? ⟨gb367, 4, none⟩ = some (.int .i64 0) := (blk_cell BK367.out 4).trans rfl; have hfz17_0 := blk_frozen BK367.out 0; have hfz17_1 := blk_frozen BK367.out 1; have hfz17_2 := blk_frozen BK367.out 2; have hfz17_3 := blk_frozen BK367.out 3; have hfz17_4 := blk_frozen BK367.out 4))
         go_loopg [9, 29] k2 (fun kq v9 v29 w' => ∃ (x9_3 : Int) (x29_3 : Int), v9 = .int .i64 x9_3 ∧ v29 = .int .i64 x29_3 ∧ Aside0 (impl_NarrowestFor.l1 kq l1 x6_2 x9_3 l0 (l0.length : Int) x23_2 l1 (l1.length : Int) x29_3 ((rd_T51 l0 x23_2).f0) ((rd_T51 l0 x23_2).f1) ((rd_T51 l0 x23_2).f2) ((rd_T51 l0 x23_2).f3) ((rd_T51 l0 x23_2).f4) = some (r1, r2)) ∧ Aside0 (kq ≤ k2) ∧ Aside0 (Kd.R (Kd.int .i64) 3 w' w.heap.size (fun _ => True) u6 x6_2) ∧ Aside0 (w'.heap[gb367]? = some (.cells #[.int .i64 ((rd_T51 l0 x23_2).f0), .int .i64 ((rd_T51 l0 x23_2).f1), .int .i64 ((rd_T51 l0 x23_2).f2), .int .i64 ((rd_T51 l0 x23_2).f3), .int .i64 ((rd_T51 l0 x23_2).f4)] 51 (0, 0))) ∧ Aside0 (Below w.heap.size w w'))
         case atStart => exact ⟨((-1)), (0), (by first | rfl | (simp; done) | (simp [*]; done)), (by first | rfl | (simp; done) | (simp [*]; done)), H', ⟨Nat.le_refl _⟩, ⟨by (with_reducible repeat (first | apply Kd.R_alloc | apply Kd.R_drewN | apply Kd.R_drew)); exact Kd.R_mono (Kd.R_far (p := ⟨gb367, 4, none⟩) (Kd.R_far (p := ⟨gb367, 3, none⟩) (Kd.R_far (p := ⟨gb367, 2, none⟩) (Kd.R_far (p := ⟨gb367, 1, none⟩) (Kd.R_far (p := ⟨gb367, 0, none⟩) (Kd.R_types HO_6.out BK367.out (by decide)) (fun _ hk => hk.2) (.int .i64 ((rd_T51 l0 x23_2).f0))) (fun _ hk => hk.2) (.int .i64 ((rd_T51 l0 x23_2).f1))) (fun _ hk => hk.2) (.int .i64 ((rd_T51 l0 x23_2).f2))) (fun _ hk => hk.2) (.int .i64 ((rd_T51 l0 x23_2).f3))) (fun _ hk => hk.2) (.int .i64 ((rd_T51 l0 x23_2).f4))) (fun _ hk => trivial)⟩, ⟨by (with_reducible repeat (first | refine blk_drewN ?_ _ | refine blk_drew ?_ | refine blk_alloc ?_ _)); refine blk_put (cs := #[.int .i64 ((rd_T51 l0 x23_2).f0), .int .i64 ((rd_T51 l0 x23_2).f1), .int .i64 ((rd_T51 l0 x23_2).f2), .int .i64 ((rd_T51 l0 x23_2).f3), .int .i64 0]) ?_ 4 _ rfl; (with_reducible repeat (first | refine blk_drewN ?_ _ | refine blk_drew ?_ | refine blk_alloc ?_ _)); refine blk_put (cs := #[.int .i64 ((rd_T51 l0 x23_2).f0), .int .i64 ((rd_T51 l0 x23_2).f1), .int .i64 ((rd_T51 l0 x23_2).f2), .int .i64 0, .int .i64 0]) ?_ 3 _ rfl; (with_reducible repeat (first | refine blk_drewN ?_ _ | refine blk_drew ?_ | refine blk_alloc ?_ _)); refine blk_put (cs := #[.int .i64 ((rd_T51 l0 x23_2).f0), .int .i64 ((rd_T51 l0 x23_2).f1), .int .i64 0, .int .i64 0, .int .i64 0]) ?_ 2 _ rfl; (with_reducible repeat (first | refine blk_drewN ?_ _ | refine blk_drew ?_ | refine blk_alloc ?_ _)); refine blk_put (cs := #[.int .i64 ((rd_T51 l0 x23_2).f0), .int .i64 0, .int .i64 0, .int .i64 0, .int .i64 0]) ?_ 1 _ rfl; (with_reducible repeat (first | refine blk_drewN ?_ _ | refine blk_drew ?_ | refine blk_alloc ?_ _)); refine blk_put (cs := #[.int .i64 0, .int .i64 0, .int .i64 0, .int .i64 0, .int .i64 0]) ?_ 0 _ rfl; (with_reducible repeat (first | refine blk_drewN ?_ _ | refine blk_drew ?_ | refine blk_alloc ?_ _)); exact BK367.out⟩, ⟨by repeat (first | (with_reducible first | exact HB.out | apply below_alloc | apply pw_below_drewN | apply below_drew1 | refine below_set ?_ GE367.out) | exact HB.out)⟩⟩
         case round =>
          clear H'
          try clear c1
          try clear c2
          try clear p2
          try clear p3
          try clear q3
          try clear hx3
          try clear c5
          try clear p6
          try clear c10
          try clear c13
          try clear c13b0
          try clear c14
          try clear c14b0
          try clear c15
          try clear c15b0
          try clear c17
          try clear hcz17_0
          try clear hcz17_1
          try clear hcz17_2
          try clear hcz17_3
          try clear hcz17_4
          try clear hfz17_0
          try clear hfz17_1
          try clear hfz17_2
          try clear hfz17_3
          try clear hfz17_4
          try clear hx366_0
          try clear hx366_1
          try clear hx366_2
          try clear hx366_3
          try clear hx366_4
          try clear p2
          try clear p366
          try clear p6
          try clear q366
          obtain ⟨x9_3, x29_3, rfl, rfl, HA, HK3, HO_6, BK367, HB⟩ := hrel
          cases gk with
          | zero => exact absurd HA.out (by simp [impl_NarrowestFor.l1])
          | succ k3 =>
           have H := HA.out
           clear HA
           simp only [impl_NarrowestFor.l1] at H
           by_cases c18 : x29_3 < (l1.length : Int)
           ·rw [if_pos c18] at H
            have c18b0 : decide (x29_3 < (l1.length : Int)) = true := decide_eq_true c18
            clear c18
            by_cases c19 : 0 ≤ x29_3
            ·rw [if_pos c19] at H
             have c19b0 : decide (0 ≤ x29_3) = true := decide_eq_true c19
             clear c19
             by_cases c20 : x29_3 < (l1.length : Int)
             ·rw [if_pos c20] at H
              have c20b0 : decide (x29_3 < (l1.length : Int)) = true := decide_eq_true c20
              clear c20
              by_cases c21 : (rd l1 x29_3) ≥ ((rd_T51 l0 x23_2).f1)
              ·rw [if_pos c21] at H
               have c21b0 : decide (((rd_T51 l0 x23_2).f1) ≤ (rd l1 x29_3)) = true := decide_eq_true c21
               clear c21
               by_cases c22 : x9_3 < 0
               ·rw [if_pos c22] at H
                have c22b0 : decide (x9_3 < 0) = true := decide_eq_true c22
                clear c22
                have H' := Aside0.mk H
                clear H
                have p368 : 0 ≤ (x29_3 : Int) := of_decide_eq_true (by first | (with_reducible assumption) | assumption)
                have q368 : x29_3 < (l1.length : Int) := of_decide_eq_true (by first | (with_reducible assumption) | assumption)
                obtain ⟨ad368, e368, hx368_0⟩ := Kd.at_int HR1.out x29_3 p368 q368
                cases e368
                replace hx368_0 := (HB.out.cell (World.block_lt_of_cell? w _ hx368_0)).trans hx368_0
                replace p368 := eq_true p368
                replace q368 := eq_true q368
                have hcz23_0 : wr.cell? ⟨gb367, 0, none⟩ = some (.int .i64 ((rd_T51 l0 x23_2).f0)) := (blk_cell BK367.out 0).trans rfl
                have hcz23_1 : wr.cell? ⟨gb367, 1, none⟩ = some (.int .i64 ((rd_T51 l0 x23_2).f1)) := (blk_cell BK367.out 1).trans rfl
                have hcz23_2 : wr.cell? ⟨gb367, 2, none⟩ = some (.int .i64 ((rd_T51 l0 x23_2).f2)) := (blk_cell BK367.out 2).trans rfl
                have hcz23_3 : wr.cell? ⟨gb367, 3, none⟩ = some (.int .i64 ((rd_T51 l0 x23_2).f3)) := (blk_cell BK367.out 3).trans rfl
                have hcz23_4 : wr.cell? ⟨gb367, 4, none⟩ = some (.int .i64 ((rd_T51 l0 x23_2).f4)) := (blk_cell BK367.out 4).trans rfl
                have hfz23_0 := blk_frozen BK367.out 0
                have hfz23_1 := blk_frozen BK367.out 1
                have hfz23_2 := blk_frozen BK367.out 2
                have hfz23_3 := blk_frozen BK367.out 3
                have hfz23_4 := blk_frozen BK367.out 4
                go_wp2
                go_roundg k3
                case measure => have := HJ2.out; have := HK2.out; have := HK3.out; omega
                case rel => exact ⟨(x29_3), (wrap64 (x29_3 + 1)), (by first | rfl | (simp; done) | (simp [*]; done)), (by first | rfl | (simp; done) | (simp [*]; done)), H', ⟨by have := HJ2.out; have := HK2.out; have := HK3.out; omega⟩, ⟨by (with_reducible repeat (first | apply Kd.R_alloc | apply Kd.R_drewN | apply Kd.R_drew)); exact HO_6.out⟩, ⟨by (with_reducible repeat (first | refine blk_drewN ?_ _ | refine blk_drew ?_ | refine blk_alloc ?_ _)); exact BK367.out⟩, ⟨by repeat (first | (with_reducible first | exact HB.out | apply below_alloc | apply pw_below_drewN | apply below_drew1 | refine below_set ?_ GE367.out) | exact HB.out)⟩⟩
               ·rw [if_neg c22] at H
                have c22b0 : decide (x9_3 < 0) = false := decide_eq_false c22
                clear c22
                by_cases c24 : 0 ≤ x9_3
                ·rw [if_pos c24] at H
                 have c24b0 : decide (0 ≤ x9_3) = true := decide_eq_true c24
                 clear c24
                 by_cases c25 : x9_3 < (l1.length : Int)
                 ·rw [if_pos c25] at H
                  have c25b0 : decide (x9_3 < (l1.length : Int)) = true := decide_eq_true c25
                  clear c25
                  by_cases c26 : (rd l1 x29_3) < (rd l1 x9_3)
                  ·rw [if_pos c26] at H
                   have c26b0 : decide ((rd l1 x29_3) < (rd l1 x9_3)) = true := decide_eq_true c26
                   clear c26
                   have H' := Aside0.mk H
                   clear H
                   have p368 : 0 ≤ (x29_3 : Int) := of_decide_eq_true (by first | (with_reducible assumption) | assumption)
                   have q368 : x29_3 < (l1.length : Int) := of_decide_eq_true (by first | (with_reducible assumption) | assumption)
                   obtain ⟨ad368, e368, hx368_0⟩ := Kd.at_int HR1.out x29_3 p368 q368
                   cases e368
                   replace hx368_0 := (HB.out.cell (World.block_lt_of_cell? w _ hx368_0)).trans hx368_0
                   replace p368 := eq_true p368
                   replace q368 := eq_true q368
                   have hcz27_0 : wr.cell? ⟨gb367, 0, none⟩ = some (.int .i64 ((rd_T51 l0 x23_2).f0)) := (blk_cell BK367.out 0).trans rfl
                   have hcz27_1 : wr.cell? ⟨gb367, 1, none⟩ = some (.int .i64 ((rd_T51 l0 x23_2).f1)) := (blk_cell BK367.out 1).trans rfl
                   have hcz27_2 : wr.cell? ⟨gb367, 2, none⟩ = some (.int .i64 ((rd_T51 l0 x23_2).f2)) := (blk_cell BK367.out 2).trans rfl
                   have hcz27_3 : wr.cell? ⟨gb367, 3, none⟩ = some (.int .i64 ((rd_T51 l0 x23_2).f3)) := (blk_cell BK367.out 3).trans rfl
                   have hcz27_4 : wr.cell? ⟨gb367, 4, none⟩ = some (.int .i64 ((rd_T51 l0 x23_2).f4)) := (blk_cell BK367.out 4).trans rfl
                   have hfz27_0 := blk_frozen BK367.out 0
                   have hfz27_1 := blk_frozen BK367.out 1
                   have hfz27_2 := blk_frozen BK367.out 2
                   have hfz27_3 := blk_frozen BK367.out 3
                   have hfz27_4 := blk_frozen BK367.out 4
                   have p369 : 0 ≤ (x9_3 : Int) := of_decide_eq_true (by first | (with_reducible assumption) | assumption)
                   have q369 : x9_3 < (l1.length : Int) := of_decide_eq_true (by first | (with_reducible assumption) | assumption)
                   obtain ⟨ad369, e369, hx369_0⟩ := Kd.at_int HR1.out x9_3 p369 q369
                   obtain rfl : ad368 = ad369 := (by injection e369)
                   replace hx369_0 := (HB.out.cell (World.block_lt_of_cell? w _ hx369_0)).trans hx369_0
                   replace p369 := eq_true p369
                   replace q369 := eq_true q369
                   go_wp2
                   go_roundg k3
                   case measure => have := HJ2.out; have := HK2.out; have := HK3.out; omega
                   case rel => exact ⟨(x29_3), (wrap64 (x29_3 + 1)), (by first | rfl | (simp; done) | (simp [*]; done)), (by first | rfl | (simp; done) | (simp [*]; done)), H', ⟨by have := HJ2.out; have := HK2.out; have := HK3.out; omega⟩, ⟨by (with_reducible repeat (first | apply Kd.R_alloc | apply Kd.R_drewN | apply Kd.R_drew)); exact HO_6.out⟩, ⟨by (with_reducible repeat (first | refine blk_drewN ?_ _ | refine blk_drew ?_ | refine blk_alloc ?_ _)); exact BK367.out⟩, ⟨by repeat (first | (with_reducible first | exact HB.out | apply below_alloc | apply pw_below_drewN | apply below_drew1 | refine below_set ?_ GE367.out) | exact HB.out)⟩⟩
                  ·rw [if_neg c26] at H
                   have c26b0 : decide ((rd l1 x29_3) < (rd l1 x9_3)) = false := decide_eq_false c26
                   clear c26
                   have H' := Aside0.mk H
                   clear H
                   have p368 : 0 ≤ (x29_3 : Int) := of_decide_eq_true (by first | (with_reducible assumption) | assumption)
                   have q368 : x29_3 < (l1.length : Int) := of_decide_eq_true (by first | (with_reducible assumption) | assumption)
                   obtain ⟨ad368, e368, hx368_0⟩ := Kd.at_int HR1.out x29_3 p368 q368
                   cases e368
                   replace hx368_0 := (HB.out.cell (World.block_lt_of_cell? w _ hx368_0)).trans hx368_0
                   replace p368 := eq_true p368
                   replace q368 := eq_true q368
                   have hcz28_0 : wr.cell? ⟨gb367, 0, none⟩ = some (.int .i64 ((rd_T51 l0 x23_2).f0)) := (blk_cell BK367.out 0).trans rfl
                   have hcz28_1 : wr.cell? ⟨gb367, 1, none⟩ = some (.int .i64 ((rd_T51 l0 x23_2).f1)) := (blk_cell BK367.out 1).trans rfl
                   have hcz28_2 : wr.cell? ⟨gb367, 2, none⟩ = some (.int .i64 ((rd_T51 l0 x23_2).f2)) := (blk_cell BK367.out 2).trans rfl
                   have hcz28_3 : wr.cell? ⟨gb367, 3, none⟩ = some (.int .i64 ((rd_T51 l0 x23_2).f3)) := (blk_cell BK367.out 3).trans rfl
                   have hcz28_4 : wr.cell? ⟨gb367, 4, none⟩ = some (.int .i64 ((rd_T51 l0 x23_2).f4)) := (blk_cell BK367.out 4).trans rfl
                   have hfz28_0 := blk_frozen BK367.out 0
                   have hfz28_1 := blk_frozen BK367.out 1
                   have hfz28_2 := blk_frozen BK367.out 2
                   have hfz28_3 := blk_frozen BK367.out 3
                   have hfz28_4 := blk_frozen BK367.out 4
                   have p369 : 0 ≤ (x9_3 : Int) := of_decide_eq_true (by first | (with_reducible assumption) | assumption)
                   have q369 : x9_3 < (l1.length : Int) := of_decide_eq_true (by first | (with_reducible assumption) | assumption)
                   obtain ⟨ad369, e369, hx369_0⟩ := Kd.at_int HR1.out x9_3 p369 q369
                   obtain rfl : ad368 = ad369 := (by injection e369)
                   replace hx369_0 := (HB.out.cell (World.block_lt_of_cell? w _ hx369_0)).trans hx369_0
                   replace p369 := eq_true p369
                   replace q369 := eq_true q369
                   go_wp2
                   go_roundg k3
                   case measure => have := HJ2.out; have := HK2.out; have := HK3.out; omega
                   case rel => exact ⟨(x9_3), (wrap64 (x29_3 + 1)), (by first | rfl | (simp; done) | (simp [*]; done)), (by first | rfl | (simp; done) | (simp [*]; done)), H', ⟨by have := HJ2.out; have := HK2.out; have := HK3.out; omega⟩, ⟨by (with_reducible repeat (first | apply Kd.R_alloc | apply Kd.R_drewN | apply Kd.R_drew)); exact HO_6.out⟩, ⟨by (with_reducible repeat (first | refine blk_drewN ?_ _ | refine blk_drew ?_ | refine blk_alloc ?_ _)); exact BK367.out⟩, ⟨by repeat (first | (with_reducible first | exact HB.out | apply below_alloc | apply pw_below_drewN | apply below_drew1 | refine below_set ?_ GE367.out) | exact HB.out)⟩⟩
                 ·rw [if_neg c25] at H
                  exact absurd H (by simp)
                ·rw [if_neg c24] at H
                 exact absurd H (by simp)
              ·rw [if_neg c21] at H
               have c21b0 : decide (((rd_T51 l0 x23_2).f1) ≤ (rd l1 x29_3)) = false := decide_eq_false c21
               clear c21
               have H' := Aside0.mk H
               clear H
               have p368 : 0 ≤ (x29_3 : Int) := of_decide_eq_true (by first | (with_reducible assumption) | assumption)
               have q368 : x29_3 < (l1.length : Int) := of_decide_eq_true (by first | (with_reducible assumption) | assumption)
               obtain ⟨ad368, e368, hx368_0⟩ := Kd.at_int HR1.out x29_3 p368 q368
               cases e368
               replace hx368_0 := (HB.out.cell (World.block_lt_of_cell? w _ hx368_0)).trans hx368_0
               replace p368 := eq_true p368
               replace q368 := eq_true q368
               have hcz29_0 : wr.cell? ⟨gb367, 0, none⟩ = some (.int .i64 ((rd_T51 l0 x23_2).f0)) := (blk_cell BK367.out 0).trans rfl
               have hcz29_1 : wr.cell? ⟨gb367, 1, none⟩ = some (.int .i64 ((rd_T51 l0 x23_2).f1)) := (blk_cell BK367.out 1).trans rfl
               have hcz29_2 : wr.cell? ⟨gb367, 2, none⟩ = some (.int .i64 ((rd_T51 l0 x23_2).f2)) := (blk_cell BK367.out 2).trans rfl
               have hcz29_3 : wr.cell? ⟨gb367, 3, none⟩ = some (.int .i64 ((rd_T51 l0 x23_2).f3)) := (blk_cell BK367.out 3).trans rfl
               have hcz29_4 : wr.cell? ⟨gb367, 4, none⟩ = some (.int .i64 ((rd_T51 l0 x23_2).f4)) := (blk_cell BK367.out 4).trans rfl
               have hfz29_0 := blk_frozen BK367.out 0
               have hfz29_1 := blk_frozen BK367.out 1
               have hfz29_2 := blk_frozen BK367.out 2
               have hfz29_3 := blk_frozen BK367.out 3
               have hfz29_4 := blk_frozen BK367.out 4
               go_wp2
               go_roundg k3
               case measure => have := HJ2.out; have := HK2.out; have := HK3.out; omega
               case rel => exact ⟨(x9_3), (wrap64 (x29_3 + 1)), (by first | rfl | (simp; done) | (simp [*]; done)), (by first | rfl | (simp; done) | (simp [*]; done)), H', ⟨by have := HJ2.out; have := HK2.out; have := HK3.out; omega⟩, ⟨by (with_reducible repeat (first | apply Kd.R_alloc | apply Kd.R_drewN | apply Kd.R_drew)); exact HO_6.out⟩, ⟨by (with_reducible repeat (first | refine blk_drewN ?_ _ | refine blk_drew ?_ | refine blk_alloc ?_ _)); exact BK367.out⟩, ⟨by repeat (first | (with_reducible first | exact HB.out | apply below_alloc | apply pw_below_drewN | apply below_drew1 | refine below_set ?_ GE367.out) | exact HB.out)⟩⟩
             ·rw [if_neg c20] at H
              exact absurd H (by simp)
            ·rw [if_neg c19] at H
             exact absurd H (by simp)
           ·rw [if_neg c18] at H
            have c18b0 : decide (x29_3 < (l1.length : Int)) = false := decide_eq_false c18
            clear c18
            by_cases c30 : x9_3 < 0
            ·rw [if_pos c30] at H
             have c30b0 : decide (x9_3 < 0) = true := decide_eq_true c30
             clear c30
             simp only [Option.some.injEq, Prod.mk.injEq] at H
             obtain ⟨rfl, rfl⟩ := H
             go_wp2
             go_ret2
             exact ⟨_, by first | rfl | (simp [errW_none, errW_some] <;> rfl) | (simp [*, errW_none, errW_some] <;> rfl) | (simp [wrap64]; done), by first | exact Kd.R_nil _ _ _ _ _ | exact Kd.N_nil _ _ _ _ _ | exact Kd.V_nil _ _ _ _ _ | exact Kd.Q_nil _ _ _ _ _ | exact Kd.S_nil _ _ _ _ _, by repeat (first | (with_reducible first | exact HB.out | apply below_alloc | apply pw_below_drewN | apply below_drew1 | refine below_set ?_ GE367.out) | exact HB.out)⟩
            ·rw [if_neg c30] at H
             have c30b0 : decide (x9_3 < 0) = false := decide_eq_false c30
             clear c30
             by_cases c31 : x6_2.length < 17592186044416
             ·rw [if_pos c31] at H
              have LMc31 := Aside0.mk c31
              clear c31
              obtain ⟨y370, hy370⟩ : ∃ y_ : List Int, y_ = (x6_2 ++ [x9_3]) := ⟨_, rfl⟩
              replace H : (impl_NarrowestFor.l0 k3 l1 y370 l0 (l0.length : Int) (wrap64 (x23_2 + 1))) = some (r1, r2) := by first | (rw [hy370]; with_reducible exact H) | (have H2_ := (Option.bind_some _ _).symm.trans H; rw [hy370]; with_reducible exact H2_) | (have H2_ := (Option.bind_some _ _).symm.trans H; with_reducible exact H2_) | with_reducible exact H | (rw [hy370]; exact H) | exact H
              have Ny370 := Aside0.mk hy370
              clear hy370
              have H' := Aside0.mk H
              clear H
              go_wp2_with (first | ((with_reducible refine gate_builtin (b := .append) (xs := #[.tmp 54, .tmp 56]) rfl ?_); at_builtin; refine Kd.R_append (Kd.int .i64) (w0 := w) w.heap.size rfl (.tmp 54) (.tmp 56) 29 3 (.int .i64 0) 8 rfl Try.underlying29 info3 rfl (by decide) (by omega) u6 x6_2 x9_3 [.int .i64 x9_3] (fun _ => True) (fun _ => False) rfl rfl ?aP (fun _ hk => hk.elim) ?aF ?aO ?aB ?aS ?aL ?_; (case aP => exact rfl); (case aB => exact (by repeat (first | (with_reducible first | exact HB.out | apply below_alloc | apply pw_below_drewN | apply below_drew1 | refine below_set ?_ GE367.out) | exact HB.out))); (case aF => exact (fun _ _ => trivial)); (case aO => exact (by (with_reducible repeat (first | apply Kd.R_alloc | apply Kd.R_drewN | apply Kd.R_drew)); exact HO_6.out)); (case aS => exact (below_size (by repeat (first | (with_reducible first | exact HB.out | apply below_alloc | apply pw_below_drewN | apply below_drew1 | refine below_set ?_ GE367.out) | exact HB.out)))); (case aL => have := LMc31.out; omega); intro v371 w32 ho hb hg hat; rw [← Ny370.out] at ho; have n0_ := Aside0.mk (blk_grown (g := gb367) (o := .cells #[.int .i64 ((rd_T51 l0 x23_2).f0), .int .i64 ((rd_T51 l0 x23_2).f1), .int .i64 ((rd_T51 l0 x23_2).f2), .int .i64 ((rd_T51 l0 x23_2).f3), .int .i64 ((rd_T51 l0 x23_2).f4)] 51 (0, 0)) (by (with_reducible repeat (first | refine blk_drewN ?_ _ | refine blk_drew ?_ | refine blk_alloc ?_ _)); exact BK367.out) hg (Kd.R_ne HO_6.out BK367.out (by decide))); have n1_ := Aside0.mk (hb); have n2_ := Aside0.mk (ho); clear BK367; clear HB; clear HO_6; have BK367 := n0_; have HB := n1_; have HO372 := n2_; clear n0_ n1_ n2_; clear ho hb hg hat))
              go_roundg k3
              case measure => have := HJ2.out; have := HK2.out; have := HK3.out; omega
              case rel => exact ⟨(y370), (wrap64 (x23_2 + 1)), (by first | rfl | (simp; done) | (simp [*]; done)), H', ⟨by have := HJ2.out; have := HK2.out; have := HK3.out; omega⟩, ⟨by (with_reducible repeat (first | apply Kd.R_alloc | apply Kd.R_drewN | apply Kd.R_drew)); exact HO372.out⟩, ⟨by repeat (first | (with_reducible first | exact HB.out | apply below_alloc | apply pw_below_drewN | apply below_drew1 | refine below_set ?_ GE367.out) | exact HB.out)⟩⟩
             ·rw [if_neg c31] at H
              exact absurd H (by simp)
        ·rw [if_neg c15] at H
         exact absurd H (by simp)
       ·rw [if_neg c14] at H
        exact absurd H (by simp)
      ·rw [if_neg c13] at H
       have c13b0 : decide (x23_2 < (l0.length : Int)) = false := decide_eq_false c13
       clear c13
       simp only [Option.some.injEq, Prod.mk.injEq] at H
       obtain ⟨rfl, rfl⟩ := H
       go_wp2
       go_ret2
       exact ⟨_, by first | rfl | (simp [errW_none, errW_some] <;> rfl) | (simp [*, errW_none, errW_some] <;> rfl) | (simp [wrap64]; done), by (with_reducible repeat (first | apply Kd.R_alloc | apply Kd.R_drewN | apply Kd.R_drew)); exact HO_6.out, by repeat (first | (with_reducible first | exact HB.out | apply below_alloc | apply pw_below_drewN | apply below_drew1) | exact HB.out)⟩

end Go.Proofs.Ytcgpibbbkdhpeaa.Q

namespace Go.Proofs.Ytcgpibbbkdhpeaa.M
open Go.RowKit Go.Proofs.Ytcgpibbbkdhpeaa.Q Go.Proofs.YtcgpibbbkdhpeaaW.PrintWords Go.Proofs.YtcgpibbbkdhpeaaW.PrintLast Go.Proofs.YtcgpibbbkdhpeaaW.Pl Classical
set_option linter.unusedSimpArgs false
set_option linter.unusedVariables false

/-- What is told of the narrowest looms. -/
def W_ (l : List S51) (m : List Int) (q : List Int × Bool) : Prop := q.1.length ≤ 1048576 ∧ ((goodJ l && goodL m) = true → (q.2 = true → partial_ l m q.1 l.length) ∧ (q.2 = false → ∃ i, i < l.length ∧ ∀ k, k < m.length → nth m k 0 < (nth l i z51).f1)) ∧ ((goodJ l && goodL m) = false → q.2 = false)
theorem narrowW (l : List S51) (m : List Int) (hl : l.length ≤ 1048576) (hm : m.length ≤ 1048576) : ∃ q : List Int × Bool, W_ l m q ∧ Ev (fun k => spec_NarrowestFor.f k l m) q ∧ Ev (fun k => impl_NarrowestFor.f k l m) q := by
  unfold spec_NarrowestFor.f impl_NarrowestFor.f
  simp only [Option.bind_some]
  by_cases hJ : goodJ l = true
  · by_cases hL : goodL m = true
    · have hmm : 1 ≤ m.length ∧ m.length ≤ 3 := by
        unfold goodL at hL
        rw [Bool.and_eq_true] at hL
        exact of_decide_eq_true hL.2
      have main : ∀ d (i : Nat) (s : List Int), l.length - i = d → i ≤ l.length → partial_ l m s i → ∃ q : List Int × Bool, W_ l m q ∧ Ev (fun k => spec_NarrowestFor.l0 k l m s (i : Int)) q ∧ Ev (fun k => impl_NarrowestFor.l0 k m s l (l.length : Int) (i : Int)) q := by
        intro d
        induction d with
        | zero =>
          intro i s hd hi hs
          have hil : i = l.length := by omega
          subst hil
          refine ⟨(s, true), ⟨by have := hs.1; simp only; omega, fun _ => ⟨fun _ => hs, fun h => by cases h⟩, fun h => by rw [hJ, hL] at h; cases h⟩, Ev.succ ?_, Ev.succ ?_⟩
          · simp only [spec_NarrowestFor.l0, if_neg (show ¬ ((l.length : Int) < (l.length : Int)) by omega)]
            exact Ev.now _
          · simp only [impl_NarrowestFor.l0, if_neg (show ¬ ((l.length : Int) < (l.length : Int)) by omega)]
            exact Ev.now _
        | succ d ih =>
          intro i s hd hi hs
          have inner : ∀ e (j : Nat) (b : Int), m.length - j = e → j ≤ m.length → (-1 ≤ b ∧ b < (m.length : Int)) → (b < 0 → ∀ k, k < j → nth m k 0 < (nth l i z51).f1) → (0 ≤ b → (nth l i z51).f1 ≤ nth m b.toNat 0) → ∃ q : List Int × Bool, W_ l m q ∧ Ev (fun k => spec_NarrowestFor.l1 k l m s (i : Int) b (j : Int)) q ∧ Ev (fun k => impl_NarrowestFor.l1 k m s b l (l.length : Int) (i : Int) m (m.length : Int) (j : Int) (nth l i z51).f0 (nth l i z51).f1 (nth l i z51).f2 (nth l i z51).f3 (nth l i z51).f4) q := by
            intro e
            induction e with
            | zero =>
              intro j b he hj hb hbn hbp
              have hjm : j = m.length := by omega
              subst hjm
              by_cases hb0 : b < 0
              · refine ⟨([], false), ⟨by simp, fun _ => ⟨fun h => (by cases h), fun _ => ⟨i, by omega, hbn hb0⟩⟩, fun _ => rfl⟩, Ev.succ ?_, Ev.succ ?_⟩
                · simp only [spec_NarrowestFor.l1, if_neg (show ¬ ((m.length : Int) < (m.length : Int)) by omega), if_pos hb0]
                  exact Ev.now _
                · simp only [impl_NarrowestFor.l1, if_neg (show ¬ ((m.length : Int) < (m.length : Int)) by omega), if_pos hb0]
                  exact Ev.now _
              · have hsn := partial_snoc hs (k := b.toNat) (by omega) (hbp (by omega))
                rw [Int.toNat_of_nonneg (by omega)] at hsn
                have hsl := hs.1
                obtain ⟨q, hq, g1, g2⟩ := ih (i + 1) (s ++ [b]) (by omega) (by omega) hsn
                refine ⟨q, hq, Ev.succ ?_, Ev.succ ?_⟩
                · simp only [spec_NarrowestFor.l1, if_neg (show ¬ ((m.length : Int) < (m.length : Int)) by omega), if_neg hb0, if_pos (show s.length < 17592186044416 by omega), stepI i (by omega)]
                  exact g1
                · simp only [impl_NarrowestFor.l1, if_neg (show ¬ ((m.length : Int) < (m.length : Int)) by omega), if_neg hb0, if_pos (show s.length < 17592186044416 by omega), stepI i (by omega)]
                  exact g2
            | succ e ihe =>
              intro j b he hj hb hbn hbp
              by_cases hw : nth m j 0 ≥ (nth l i z51).f1
              · obtain ⟨q1, hq1, a1, a2⟩ := ihe (j + 1) (j : Int) (by omega) (by omega) (by omega) (fun h => by omega) (fun _ => by rw [Int.toNat_natCast]; omega)
                by_cases hb0 : b < 0
                · refine ⟨q1, hq1, Ev.succ ?_, Ev.succ ?_⟩
                  · simp only [spec_NarrowestFor.l1, rdI, rd51, if_pos (show (j : Int) < (m.length : Int) by omega), if_pos (show (0 : Int) ≤ (j : Int) by omega), if_pos (show (0 : Int) ≤ (i : Int) by omega), if_pos (show (i : Int) < (l.length : Int) by omega), if_pos hw, if_pos hb0, stepI j (by omega)]
                    exact a1
                  · simp only [impl_NarrowestFor.l1, rdI, rd51, if_pos (show (j : Int) < (m.length : Int) by omega), if_pos (show (0 : Int) ≤ (j : Int) by omega), if_pos hw, if_pos hb0, stepI j (by omega)]
                    exact a2
                · obtain ⟨q0, hq0, c1, c2⟩ := ihe (j + 1) b (by omega) (by omega) hb (fun h => absurd h hb0) hbp
                  by_cases hn : nth m j 0 < rd m b
                  · refine ⟨q1, hq1, Ev.succ ?_, Ev.succ ?_⟩
                    · simp only [spec_NarrowestFor.l1, rdI, rd51, if_pos (show (j : Int) < (m.length : Int) by omega), if_pos (show (0 : Int) ≤ (j : Int) by omega), if_pos (show (0 : Int) ≤ (i : Int) by omega), if_pos (show (i : Int) < (l.length : Int) by omega), if_pos hw, if_neg hb0, if_pos (show 0 ≤ b by omega), if_pos hb.2, if_pos hn, stepI j (by omega)]
                      exact a1
                    · simp only [impl_NarrowestFor.l1, rdI, rd51, if_pos (show (j : Int) < (m.length : Int) by omega), if_pos (show (0 : Int) ≤ (j : Int) by omega), if_pos hw, if_neg hb0, if_pos (show 0 ≤ b by omega), if_pos hb.2, if_pos hn, stepI j (by omega)]
                      exact a2
                  · refine ⟨q0, hq0, Ev.succ ?_, Ev.succ ?_⟩
                    · simp only [spec_NarrowestFor.l1, rdI, rd51, if_pos (show (j : Int) < (m.length : Int) by omega), if_pos (show (0 : Int) ≤ (j : Int) by omega), if_pos (show (0 : Int) ≤ (i : Int) by omega), if_pos (show (i : Int) < (l.length : Int) by omega), if_pos hw, if_neg hb0, if_pos (show 0 ≤ b by omega), if_pos hb.2, if_neg hn, stepI j (by omega)]
                      exact c1
                    · simp only [impl_NarrowestFor.l1, rdI, rd51, if_pos (show (j : Int) < (m.length : Int) by omega), if_pos (show (0 : Int) ≤ (j : Int) by omega), if_pos hw, if_neg hb0, if_pos (show 0 ≤ b by omega), if_pos hb.2, if_neg hn, stepI j (by omega)]
                      exact c2
              · obtain ⟨q0, hq0, c1, c2⟩ := ihe (j + 1) b (by omega) (by omega) hb (fun h k hk => by
                  by_cases e : k = j
                  · subst e; omega
                  · exact hbn h k (by omega)) hbp
                refine ⟨q0, hq0, Ev.succ ?_, Ev.succ ?_⟩
                · simp only [spec_NarrowestFor.l1, rdI, rd51, if_pos (show (j : Int) < (m.length : Int) by omega), if_pos (show (0 : Int) ≤ (j : Int) by omega), if_pos (show (0 : Int) ≤ (i : Int) by omega), if_pos (show (i : Int) < (l.length : Int) by omega), if_neg hw, stepI j (by omega)]
                  exact c1
                · simp only [impl_NarrowestFor.l1, rdI, rd51, if_pos (show (j : Int) < (m.length : Int) by omega), if_pos (show (0 : Int) ≤ (j : Int) by omega), if_neg hw, stepI j (by omega)]
                  exact c2
          obtain ⟨q, hq, g1, g2⟩ := inner m.length 0 (-1) (by omega) (by omega) (by omega) (fun _ k hk => by omega) (fun h => by omega)
          refine ⟨q, hq, Ev.succ ?_, Ev.succ ?_⟩
          · simp only [spec_NarrowestFor.l0, if_pos (show (i : Int) < (l.length : Int) by omega)]
            exact g1
          · simp only [impl_NarrowestFor.l0, if_pos (show (i : Int) < (l.length : Int) by omega), if_pos (show (0 : Int) ≤ (i : Int) by omega), rd51]
            exact g2
      obtain ⟨q, hq, g1, g2⟩ := main l.length 0 [] (by omega) (by omega) ⟨rfl, fun j hj => by omega⟩
      refine ⟨q, hq, Ev.bind (sBoth l m hl hm) ?_, Ev.bind (iJobs l hl) ?_⟩
      · simp only [hJ, hL, Bool.and_self, if_true]
        exact g1
      · simp only [hJ, hL, if_true, iLooms, Option.bind_some, Bool.not_true]
        refine Ev.succ ?_
        simp only [impl_NarrowestFor.j0, Bool.false_eq_true, if_false]
        exact g2
    · refine ⟨([], false), ⟨by simp, fun h => (by rw [hJ] at h; simp only [Bool.true_and] at h; exact absurd h hL), fun _ => rfl⟩, Ev.bind (sBoth l m hl hm) ?_, Ev.bind (iJobs l hl) ?_⟩
      · simp only [hJ, hL, Bool.and_false, Bool.false_eq_true, if_false]
        exact Ev.now _
      · simp only [hJ, hL, if_true, iLooms, Option.bind_some, Bool.not_false]
        refine Ev.succ ?_
        simp only [impl_NarrowestFor.j0, if_true]
        exact Ev.now _
  · refine ⟨([], false), ⟨by simp, fun h => (by rw [Bool.and_eq_true] at h; exact absurd h.1 hJ), fun _ => rfl⟩, Ev.bind (sBoth l m hl hm) ?_, Ev.bind (iJobs l hl) ?_⟩
    · simp only [hJ, Bool.false_and, Bool.false_eq_true, if_false]
      exact Ev.now _
    · simp only [hJ, Bool.false_eq_true, if_false]
      refine Ev.succ ?_
      simp only [impl_NarrowestFor.j0, if_true]
      exact Ev.now _
/-- There is a narrowest plan exactly where there is a plan. -/
theorem narrowRes (l : List S51) (m : List Int) (hl : l.length ≤ 1048576) (hm : m.length ≤ 1048576) : ∃ q : List Int × Bool, (q.1.length ≤ 1048576 ∧ q.2 = (bestRes l m).2 ∧ (q.2 = true → planRes l m q.1 = (true, true))) ∧ Ev (fun k => spec_NarrowestFor.f k l m) q ∧ Ev (fun k => impl_NarrowestFor.f k l m) q := by
  obtain ⟨q, ⟨h1, h2, h3⟩, g1, g2⟩ := narrowW l m hl hm
  refine ⟨q, ⟨h1, ?_, ?_⟩, g1, g2⟩
  · unfold bestRes
    by_cases hg : (goodJ l && goodL m) = true
    · rw [if_pos hg]
      obtain ⟨a, b⟩ := h2 hg
      cases hq : q.2 with
      | true =>
        symm
        exact bestP_some.2 (fun h => by have := plansTo_full l m _ _ (a hq); rw [h] at this; cases this)
      | false =>
        obtain ⟨i, hi, hk⟩ := b hq
        cases hb : (bestP l m).2 with
        | false => rfl
        | true =>
          obtain ⟨_, hp⟩ := plansTo_sound l m _ _ (bestP_mem hb)
          obtain ⟨k, k1, _, k3⟩ := hp i hi
          have := hk k k1
          omega
    · rw [if_neg hg]
      exact h3 (by simpa using hg)
  · intro hq
    have hg : (goodJ l && goodL m) = true := by
      cases hg : (goodJ l && goodL m) with
      | true => rfl
      | false => rw [h3 hg] at hq; cases hq
    have hp := (h2 hg).1 hq
    unfold planRes
    rw [if_pos hg]
    have hg' := hg
    rw [Bool.and_eq_true] at hg'
    have := partial_asked hg'.1 hg'.2 hp
    unfold asked at this
    rw [hg, Bool.true_and] at this
    rw [this]
end Go.Proofs.Ytcgpibbbkdhpeaa.M

namespace Go.Proofs.Ytcgpibbbkdhpeaa.Q
open Go.RowKit Go.Proofs.YtcgpibbbkdhpeaaW.PrintWords Go.Proofs.YtcgpibbbkdhpeaaW.PrintLast Go.Proofs.YtcgpibbbkdhpeaaW.PrintMore
set_option linter.unusedVariables false
set_option linter.unusedSimpArgs false

/-! ### spec_AreJobs: function 15 -/
def spec_AreJobs.f (k : Nat) (l0 : List (S51)) : Option (Bool) := (spec_l16Jobs.f k l0).bind fun t332 => (some t332)
set_option maxHeartbeats 8000000 in
set_option maxRecDepth 100000 in
theorem spec_AreJobs.calls (k : Nat) (A0 : Option Addr) (c0 : Nat) (l0 : List (S51)) (r : Bool) (w : World) (hr0 : Kd.C k51 w A0 l0.length l0) (hc0 : l0.length ≤ c0) (h : spec_AreJobs.f k l0 = some r) :
  Calls Try.prog 15 #[.slice A0 l0.length c0] w fun e w' => e = .returned (.bool r) ∧ Below w.heap.size w w' := by
 have HR0 := Aside0.mk hr0
 have HC0 := Aside0.mk hc0
 clear hr0 hc0
 have HB := Aside0.mk (Below.refl w.heap.size w)
 have H : ((spec_l16Jobs.f k l0).bind fun t332 => (some t332)) = some r := h
 clear h
 replace H := Option.bind_eq_some_iff.mp H
 obtain ⟨t332, A20, H⟩ := H
 have A2 := Aside0.mk A20
 clear A20
 obtain rfl := Option.some.inj H
 go_enter Try.func15, Try.ntmps15
 go_wp2_with (first | ((with_reducible refine gate_callee (f := 47) rfl ?_); refine goesL_ (some 4) rfl rfl Try.func47 (by kernel_rfl) rfl #[.slice A0 l0.length c0] rfl (by (try simp only [List.map_toArray, List.map_cons, List.map_nil]); first | done | rfl | (simp only [List.length_drop, List.length_take]; rfl)) ?_; (with_reducible refine (spec_l16Jobs.calls k _ _ l0 t332 _ ?side1 ?side2 A2.out).mono ?_); (case side1 => repeat (first | exact HR0.out | (with_reducible refine Kd.C_alloc ?_ _) | (with_reducible refine Kd.C_drewN ?_ _) | (with_reducible refine Kd.C_drew ?_))); (case side2 => exact HC0.out); rintro e w3 ⟨rfl, hb⟩; refine ⟨_, rfl, ?_⟩; have n0_ := Aside0.mk (below_step (by repeat (first | (with_reducible first | exact HB.out | apply below_alloc | apply pw_below_drewN | apply below_drew1) | exact HB.out)) hb); clear HB; have HB := n0_; clear n0_; (try clear hb); (try clear hb2); (try clear hk); (try clear hi)))
 go_ret
 exact ⟨by first | rfl | (simp [errW_none, errW_some] <;> rfl) | (simp [*, errW_none, errW_some] <;> rfl) | (simp [wrap64]; done), by repeat (first | (with_reducible first | exact HB.out | apply below_alloc | apply pw_below_drewN | apply below_drew1) | exact HB.out)⟩

end Go.Proofs.Ytcgpibbbkdhpeaa.Q

namespace Go.Proofs.Ytcgpibbbkdhpeaa.Q
open Go.RowKit Go.Proofs.YtcgpibbbkdhpeaaW.PrintWords Go.Proofs.YtcgpibbbkdhpeaaW.PrintLast Go.Proofs.YtcgpibbbkdhpeaaW.PrintMore
set_option linter.unusedVariables false
set_option linter.unusedSimpArgs false

/-! ### cmp_Compare_int: function 77 -/
def cmp_Compare_int.f (a0 : Int) (a1 : Int) : Option (Int) := (cmp_isNaN_int.f a0).bind fun t279 => ((cmp_isNaN_int.f a1).bind fun t280 => (if t279 = true then (if t280 = true then (some 0) else (some (-1))) else (if t280 = true then (some 1) else (if a0 < a1 then (some (-1)) else (if a0 > a1 then (some 1) else (some 0))))))
set_option maxHeartbeats 8000000 in
set_option maxRecDepth 100000 in
theorem cmp_Compare_int.calls (a0 : Int) (a1 : Int) (r : Int) (w : World) (h : cmp_Compare_int.f a0 a1 = some r) :
  Calls Try.prog 77 #[.int .i64 a0, .int .i64 a1] w fun e w' => e = .returned (.int .i64 r) ∧ Drawn0 w w' := by
 have H : ((cmp_isNaN_int.f a0).bind fun t279 => ((cmp_isNaN_int.f a1).bind fun t280 => (if t279 = true then (if t280 = true then (some 0) else (some (-1))) else (if t280 = true then (some 1) else (if a0 < a1 then (some (-1)) else (if a0 > a1 then (some 1) else (some 0))))))) = some r := h
 clear h
 replace H := Option.bind_eq_some_iff.mp H
 obtain ⟨t279, A30, H⟩ := H
 have A3 := Aside0.mk A30
 clear A30
 replace H := Option.bind_eq_some_iff.mp H
 obtain ⟨t280, A40, H⟩ := H
 have A4 := Aside0.mk A40
 clear A40
 by_cases c5 : t279 = true
 ·subst c5
  rw [if_pos rfl] at H
  by_cases c6 : t280 = true
  ·subst c6
   rw [if_pos rfl] at H
   obtain rfl := Option.some.inj H
   go_enter Try.func77, Try.ntmps77
   go_wp2_with (first | ((with_reducible refine gate_callee (f := 92) rfl ?_); refine goesL_ (some 8) rfl rfl Try.func92 (by kernel_rfl) rfl #[.int .i64 a0] rfl (by (try simp only [List.map_toArray, List.map_cons, List.map_nil]); first | done | rfl | (simp only [List.length_drop, List.length_take]; rfl)) ?_; (with_reducible refine (cmp_isNaN_int.calls a0 true _ A3.out).mono ?_); rintro e w' ⟨rfl, ⟨nd, rfl⟩⟩; refine ⟨_, rfl, ?_⟩) | ((with_reducible refine gate_callee (f := 92) rfl ?_); refine goesL_ (some 10) rfl rfl Try.func92 (by kernel_rfl) rfl #[.int .i64 a1] rfl (by (try simp only [List.map_toArray, List.map_cons, List.map_nil]); first | done | rfl | (simp only [List.length_drop, List.length_take]; rfl)) ?_; (with_reducible refine (cmp_isNaN_int.calls a1 true _ A4.out).mono ?_); rintro e w' ⟨rfl, ⟨nd, rfl⟩⟩; refine ⟨_, rfl, ?_⟩))
   go_ret
   exact ⟨by first | rfl | (simp; done) | (simp [*]; done), by repeat (first | exact Drawn0.refl _ | apply Drawn0.step)⟩
  ·replace c6 := Bool.eq_false_iff.mpr c6
   subst c6
   rw [if_neg (show ¬ (false = true) by decide)] at H
   obtain rfl := Option.some.inj H
   go_enter Try.func77, Try.ntmps77
   go_wp2_with (first | ((with_reducible refine gate_callee (f := 92) rfl ?_); refine goesL_ (some 8) rfl rfl Try.func92 (by kernel_rfl) rfl #[.int .i64 a0] rfl (by (try simp only [List.map_toArray, List.map_cons, List.map_nil]); first | done | rfl | (simp only [List.length_drop, List.length_take]; rfl)) ?_; (with_reducible refine (cmp_isNaN_int.calls a0 true _ A3.out).mono ?_); rintro e w' ⟨rfl, ⟨nd, rfl⟩⟩; refine ⟨_, rfl, ?_⟩) | ((with_reducible refine gate_callee (f := 92) rfl ?_); refine goesL_ (some 10) rfl rfl Try.func92 (by kernel_rfl) rfl #[.int .i64 a1] rfl (by (try simp only [List.map_toArray, List.map_cons, List.map_nil]); first | done | rfl | (simp only [List.length_drop, List.length_take]; rfl)) ?_; (with_reducible refine (cmp_isNaN_int.calls a1 false _ A4.out).mono ?_); rintro e w' ⟨rfl, ⟨nd, rfl⟩⟩; refine ⟨_, rfl, ?_⟩))
   go_ret
   exact ⟨by first | rfl | (simp; done) | (simp [*]; done), by repeat (first | exact Drawn0.refl _ | apply Drawn0.step)⟩
 ·replace c5 := Bool.eq_false_iff.mpr c5
  subst c5
  rw [if_neg (show ¬ (false = true) by decide)] at H
  by_cases c7 : t280 = true
  ·subst c7
   rw [if_pos rfl] at H
   obtain rfl := Option.some.inj H
   go_enter Try.func77, Try.ntmps77
   go_wp2_with (first | ((with_reducible refine gate_callee (f := 92) rfl ?_); refine goesL_ (some 8) rfl rfl Try.func92 (by kernel_rfl) rfl #[.int .i64 a0] rfl (by (try simp only [List.map_toArray, List.map_cons, List.map_nil]); first | done | rfl | (simp only [List.length_drop, List.length_take]; rfl)) ?_; (with_reducible refine (cmp_isNaN_int.calls a0 false _ A3.out).mono ?_); rintro e w' ⟨rfl, ⟨nd, rfl⟩⟩; refine ⟨_, rfl, ?_⟩) | ((with_reducible refine gate_callee (f := 92) rfl ?_); refine goesL_ (some 10) rfl rfl Try.func92 (by kernel_rfl) rfl #[.int .i64 a1] rfl (by (try simp only [List.map_toArray, List.map_cons, List.map_nil]); first | done | rfl | (simp only [List.length_drop, List.length_take]; rfl)) ?_; (with_reducible refine (cmp_isNaN_int.calls a1 true _ A4.out).mono ?_); rintro e w' ⟨rfl, ⟨nd, rfl⟩⟩; refine ⟨_, rfl, ?_⟩))
   go_ret
   exact ⟨by first | rfl | (simp; done) | (simp [*]; done), by repeat (first | exact Drawn0.refl _ | apply Drawn0.step)⟩
  ·replace c7 := Bool.eq_false_iff.mpr c7
   subst c7
   rw [if_neg (show ¬ (false = true) by decide)] at H
   by_cases c8 : a0 < a1
   ·rw [if_pos c8] at H
    have c8b0 : decide (a0 < a1) = true := decide_eq_true c8
    clear c8
    obtain rfl := Option.some.inj H
    go_enter Try.func77, Try.ntmps77
    go_wp2_with (first | ((with_reducible refine gate_callee (f := 92) rfl ?_); refine goesL_ (some 8) rfl rfl Try.func92 (by kernel_rfl) rfl #[.int .i64 a0] rfl (by (try simp only [List.map_toArray, List.map_cons, List.map_nil]); first | done | rfl | (simp only [List.length_drop, List.length_take]; rfl)) ?_; (with_reducible refine (cmp_isNaN_int.calls a0 false _ A3.out).mono ?_); rintro e w' ⟨rfl, ⟨nd, rfl⟩⟩; refine ⟨_, rfl, ?_⟩) | ((with_reducible refine gate_callee (f := 92) rfl ?_); refine goesL_ (some 10) rfl rfl Try.func92 (by kernel_rfl) rfl #[.int .i64 a1] rfl (by (try simp only [List.map_toArray, List.map_cons, List.map_nil]); first | done | rfl | (simp only [List.length_drop, List.length_take]; rfl)) ?_; (with_reducible refine (cmp_isNaN_int.calls a1 false _ A4.out).mono ?_); rintro e w' ⟨rfl, ⟨nd, rfl⟩⟩; refine ⟨_, rfl, ?_⟩))
    go_ret
    exact ⟨by first | rfl | (simp; done) | (simp [*]; done), by repeat (first | exact Drawn0.refl _ | apply Drawn0.step)⟩
   ·rw [if_neg c8] at H
    have c8b0 : decide (a0 < a1) = false := decide_eq_false c8
    clear c8
    by_cases c9 : a0 > a1
    ·rw [if_pos c9] at H
     have c9b0 : decide (a1 < a0) = true := decide_eq_true c9
     clear c9
     obtain rfl := Option.some.inj H
     go_enter Try.func77, Try.ntmps77
     go_wp2_with (first | ((with_reducible refine gate_callee (f := 92) rfl ?_); refine goesL_ (some 8) rfl rfl Try.func92 (by kernel_rfl) rfl #[.int .i64 a0] rfl (by (try simp only [List.map_toArray, List.map_cons, List.map_nil]); first | done | rfl | (simp only [List.length_drop, List.length_take]; rfl)) ?_; (with_reducible refine (cmp_isNaN_int.calls a0 false _ A3.out).mono ?_); rintro e w' ⟨rfl, ⟨nd, rfl⟩⟩; refine ⟨_, rfl, ?_⟩) | ((with_reducible refine gate_callee (f := 92) rfl ?_); refine goesL_ (some 10) rfl rfl Try.func92 (by kernel_rfl) rfl #[.int .i64 a1] rfl (by (try simp only [List.map_toArray, List.map_cons, List.map_nil]); first | done | rfl | (simp only [List.length_drop, List.length_take]; rfl)) ?_; (with_reducible refine (cmp_isNaN_int.calls a1 false _ A4.out).mono ?_); rintro e w' ⟨rfl, ⟨nd, rfl⟩⟩; refine ⟨_, rfl, ?_⟩))
     go_ret
     exact ⟨by first | rfl | (simp; done) | (simp [*]; done), by repeat (first | exact Drawn0.refl _ | apply Drawn0.step)⟩
    ·rw [if_neg c9] at H
     have c9b0 : decide (a1 < a0) = false := decide_eq_false c9
     clear c9
     obtain rfl := Option.some.inj H
     go_enter Try.func77, Try.ntmps77
     go_wp2_with (first | ((with_reducible refine gate_callee (f := 92) rfl ?_); refine goesL_ (some 8) rfl rfl Try.func92 (by kernel_rfl) rfl #[.int .i64 a0] rfl (by (try simp only [List.map_toArray, List.map_cons, List.map_nil]); first | done | rfl | (simp only [List.length_drop, List.length_take]; rfl)) ?_; (with_reducible refine (cmp_isNaN_int.calls a0 false _ A3.out).mono ?_); rintro e w' ⟨rfl, ⟨nd, rfl⟩⟩; refine ⟨_, rfl, ?_⟩) | ((with_reducible refine gate_callee (f := 92) rfl ?_); refine goesL_ (some 10) rfl rfl Try.func92 (by kernel_rfl) rfl #[.int .i64 a1] rfl (by (try simp only [List.map_toArray, List.map_cons, List.map_nil]); first | done | rfl | (simp only [List.length_drop, List.length_take]; rfl)) ?_; (with_reducible refine (cmp_isNaN_int.calls a1 false _ A4.out).mono ?_); rintro e w' ⟨rfl, ⟨nd, rfl⟩⟩; refine ⟨_, rfl, ?_⟩))
     go_ret
     exact ⟨by first | rfl | (simp; done) | (simp [*]; done), by repeat (first | exact Drawn0.refl _ | apply Drawn0.step)⟩

end Go.Proofs.Ytcgpibbbkdhpeaa.Q

namespace Go.Proofs.Ytcgpibbbkdhpeaa.WK
open Go Go.RowKit Go.Proofs.Ytcgpibbbkdhpeaa.Q Go.Proofs.Ytcgpibbbkdhpeaa.M Go.Proofs.YtcgpibbbkdhpeaaW.PrintWords Go.Proofs.YtcgpibbbkdhpeaaW.Pl Go.Proofs.YtcgpibbbkdhpeaaW.SL
set_option linter.unusedSimpArgs false
set_option linter.unusedVariables false
set_option maxRecDepth 100000
namespace BP
theorem agg51 : AggT Try.prog 51 5 := ⟨by kernel_rfl⟩
theorem sz51 : SzT Try.prog 51 5 := ⟨by kernel_rfl⟩
theorem sc3 : ScT Try.prog 3 := ⟨by kernel_rfl⟩
theorem sc25 : ScT Try.prog 25 := ⟨by kernel_rfl⟩
theorem sc29 : ScT Try.prog 29 := ⟨by kernel_rfl⟩
theorem fld51_1 : FldT Try.prog 51 1 1 := ⟨by kernel_rfl⟩
theorem zero51 : ZeroT Try.prog 51 [.int .i64 0, .int .i64 0, .int .i64 0, .int .i64 0, .int .i64 0] := ⟨by kernel_rfl⟩
theorem zero29 : ZeroT Try.prog 29 [.slice none 0 0] := ⟨by kernel_rfl⟩
theorem zero3 : ZeroT Try.prog 3 [.int .i64 0] := ⟨by kernel_rfl⟩
theorem el25 : ElT Try.prog 25 51 5 := ⟨by kernel_rfl⟩
theorem el29 : ElT Try.prog 29 3 1 := ⟨by kernel_rfl⟩
theorem el80 : ElT Try.prog 80 29 1 := ⟨by kernel_rfl⟩
theorem en91 : Ent Try.prog 91 := ⟨enters_of Try.func91 (by kernel_rfl) rfl⟩
theorem en63 : Ent Try.prog 63 := ⟨enters_of Try.func63 (by kernel_rfl) rfl⟩
theorem en65 : Ent Try.prog 65 := ⟨enters_of Try.func65 (by kernel_rfl) rfl⟩
theorem en67 : Ent Try.prog 67 := ⟨enters_of Try.func67 (by kernel_rfl) rfl⟩
theorem en77 : Ent Try.prog 77 := ⟨enters_of Try.func77 (by kernel_rfl) rfl⟩
theorem en78 : Ent Try.prog 78 := ⟨enters_of Try.func78 (by kernel_rfl) rfl⟩
theorem en76 : Ent Try.prog 76 := ⟨enters_of Try.func76 (by kernel_rfl) rfl⟩
theorem en75 : Ent Try.prog 75 := ⟨enters_of Try.func75 (by kernel_rfl) rfl⟩
theorem en74 : Ent Try.prog 74 := ⟨enters_of Try.func74 (by kernel_rfl) rfl⟩
theorem en17 : Ent Try.prog 17 := ⟨enters_of Try.func17 (by kernel_rfl) rfl⟩
theorem en56 : Ent Try.prog 56 := ⟨enters_of Try.func56 (by kernel_rfl) rfl⟩
theorem ap29 : ApT Try.prog 29 3 1 8 := apT_of (z := .int .i64 0) Try.underlying29 (by kernel_rfl) rfl (by decide)
theorem ap80 : ApT Try.prog 80 29 1 24 := apT_of (z := .slice none 0 0) Try.underlying80 (by kernel_rfl) rfl (by decide)
theorem clone_f (p : List Int) (h : p.length ≤ 1048576) : slices_Clone_int_int.f p = some p := by
  unfold slices_Clone_int_int.f
  rw [Option.bind_some, if_pos (by simp; omega), List.nil_append]
theorem mixed : Try.prog.follows .mixedOrders = true := by kernel_rfl
namespace Pl
set_option maxHeartbeats 4000000 in
theorem calls (A0 : Option Addr) (c0 : Nat) (l : List S51) (A1 : Option Addr) (c1 : Nat) (m : List Int) (w : World) (hr0 : Kd.C k51 w A0 l.length l) (hc0 : l.length ≤ c0) (hr1 : Kd.C (Kd.int .i64) w A1 m.length m) (hc1 : m.length ≤ c1) (hl6 : l.length ≤ 6) (hm3 : m.length ≤ 3) :
    Calls Try.prog 74 #[.slice A0 l.length c0, .slice A1 m.length c1] w fun e w' => ∃ A c vs, e = .returned (.slice A (vs : List Value).length c) ∧ GV 29 3 w.heap.size (.slice A vs.length c) vs (plansTo l m l.length) w' ∧ Below w.heap.size w w' := by
  let Rr : Ending → World → Prop := fun e w' => ∃ A c vs, e = .returned (.slice A (vs : List Value).length c) ∧ GV 29 3 w.heap.size (.slice A vs.length c) vs (plansTo l m l.length) w' ∧ Below w.heap.size w w'
  refine enterW (args := [.slice A0 l.length c0, .slice A1 m.length c1]) [(fun W => Kd.C k51 W A0 l.length l), (fun W => Kd.C (Kd.int .i64) W A1 m.length m)] (fun p hp W hb => by
    rcases List.mem_cons.1 hp with rfl | hp
    · exact Kd.C_below hr0 hb
    · rw [List.mem_singleton.1 hp]; exact Kd.C_below hr1 hb) Try.func74 rfl rfl ?_
  show Cj Try.prog _ _ _ (bodyPost Try.prog Try.f74 Rr) _ _ _
  repeat (first
    | (apply gateO; first
      | refine Jl.yd (Y.mv rfl rfl) rfl rfl rfl ?_
      | refine Jl.yd (Y.asg rfl rfl) rfl rfl rfl ?_
      | refine Jl.yd (Y.ext rfl rfl rfl) rfl rfl rfl ?_
      | refine Jl.yd (Y.pickT rfl rfl rfl) rfl rfl rfl ?_
      | refine Jl.yd (Y.pickF rfl rfl rfl) rfl rfl rfl ?_
      | refine Jl.off rfl rfl rfl ?_
      | refine Jl.yd (Y.cmpF rfl rfl rfl rfl (by omega)) rfl rfl rfl ?_
      | refine Jl.yd (Y.cmpT rfl rfl rfl rfl (by omega)) rfl rfl rfl ?_
      | refine Jl.yd (Y.neqB rfl rfl rfl Try.underlying4) rfl rfl rfl ?_
      | refine Jl.yd (Y.cmp rfl rfl rfl rfl) rfl rfl rfl ?_
      | refine Jl.yd (Y.not rfl rfl) rfl rfl rfl ?_
      | refine Jl.yd (Y.arithN rfl rfl rfl rfl (by omega)) rfl rfl rfl ?_
      | refine Jl.yd (Y.arith64 rfl rfl rfl rfl) rfl rfl rfl ?_
      | refine Jl.yd (Y.lenS Try.underlying25 rfl rfl rfl) rfl rfl rfl ?_
      | refine Jl.yd (Y.lenS Try.underlying29 rfl rfl rfl) rfl rfl rfl ?_
      | refine Jl.yd (Y.lenS Try.underlying80 rfl rfl rfl) rfl rfl rfl ?_
      | refine Jl.lit0 (Kd.int .i64) rfl rfl rfl rfl el29 (fun g0 => ?_)
      | refine Jl.lit1 rfl rfl rfl rfl rfl el80 zero29 rfl (fun g1 => ?_)
      | refine Jl.splitG rfl rfl (fun h => ?_) (fun h => ?_))
    | (apply gateE; first
      | refine Jl.nil (Ej.go ?_ (fun _ _ h => h))
      | (refine Jl.nil (Ej.back (fun _ _ h => h) (by repeat (first | exact .refl | apply DropTo.tail)) ?_); repeat (first | exact trivial | refine ⟨rfl, ?_⟩)))
    | (apply gateC; first
      | refine Cj.block rfl ?_
      | refine Cj.condF rfl rfl (Cj.skip rfl (Ej.go ?_ (fun _ _ h => h)))
      | (refine Cj.condF rfl rfl (Cj.skip rfl (Ej.back (fun _ _ h => h) (by repeat (first | exact .refl | apply DropTo.tail)) ?_)); repeat (first | exact trivial | refine ⟨rfl, ?_⟩))
      | refine Cj.condF rfl rfl ?_
      | refine Cj.condT rfl rfl ?_
      | refine Cj.exit rfl (Ej.go ?_ (fun _ _ h => h))
      | refine Cj.cond rfl rfl (fun h => ?_) (fun h => ?_)
      | refine Cj.skip rfl (Ej.go ?_ (fun _ _ h => h))
      | (refine Cj.skip rfl (Ej.back (fun _ _ h => h) (by repeat (first | exact .refl | apply DropTo.tail)) ?_); repeat (first | exact trivial | refine ⟨rfl, ?_⟩))
      | refine Cj.seq rfl ?_
      | refine Cj.region rfl ?_))
  refine Cj.ws (ι := Unit) (fun _ => True) (fun _ => []) (fun _ => [GV 29 3 w.heap.size (.slice (some ⟨g1, 0, none⟩) ([.slice (some ⟨g0, 0, none⟩) ([] : List Int).length 0] : List Value).length 1) [.slice (some ⟨g0, 0, none⟩) ([] : List Int).length 0] (plansTo l m 0), (fun W => Kd.C k51 W A0 l.length l), (fun W => Kd.C (Kd.int .i64) W A1 m.length m)]) (fun w' hW => ⟨(), trivial, hW.oneV rfl⟩) (fun _ _ => ?_)
  refine Cj.loopP (ι := Nat × Option Addr × Nat × List Value) (fun q => q.1 ≤ l.length ∧ q.2.2.2.length = (plansTo l m q.1).length) (fun q => [(0, .slice A0 l.length c0), (1, .slice A1 m.length c1), (5, .slice q.2.1 (q.2.2.2 : List Value).length q.2.2.1), (15, .slice A0 l.length c0), (16, .int .i64 (l.length : Int)), (17, .int .i64 (q.1 : Int))]) (fun _ => []) (fun q => [GV 29 3 w.heap.size (.slice q.2.1 (q.2.2.2 : List Value).length q.2.2.1) q.2.2.2 (plansTo l m q.1), (fun W => Kd.C k51 W A0 l.length l), (fun W => Kd.C (Kd.int .i64) W A1 m.length m)]) (fun q => l.length - q.1) rfl (0, some ⟨g1, 0, none⟩, 1, [.slice (some ⟨g0, 0, none⟩) ([] : List Int).length 0]) ⟨Nat.zero_le _, rfl⟩ ⟨rfl, rfl, rfl, rfl, rfl, rfl, trivial⟩ (by repeat (first | exact .nil | refine Pick.cons (by repeat (first | exact .z | apply OutAt.s)) ?_)) (fun p hp => hp) (fun q hi => ?_)
  obtain ⟨i, A, c, vs⟩ := q
  dsimp only at hi ⊢
  obtain ⟨hi, hvl⟩ := hi
  have hpl := plansTo_len l m hm3 i
  have h36 : 3 ^ i ≤ 3 ^ 6 := Nat.pow_le_pow_right (by omega) (by omega)
  have h36' : vs.length ≤ 729 := by
    have : 3 ^ 6 = 729 := by decide
    omega
  by_cases hlt : i < l.length
  · obtain ⟨ad0, rfl⟩ : ∃ ad, A0 = some ad := by
      obtain ⟨ad, e, _⟩ := hr0.2.2 (by omega)
      exact ⟨ad, e⟩
    obtain ⟨x, hx⟩ : ∃ x, nth l i z51 = x := ⟨_, rfl⟩
    have hus : ([.int .i64 (l.getD ((i : Int)).toNat z51).f0, .int .i64 (l.getD ((i : Int)).toNat z51).f1, .int .i64 (l.getD ((i : Int)).toNat z51).f2, .int .i64 (l.getD ((i : Int)).toNat z51).f3, .int .i64 (l.getD ((i : Int)).toNat z51).f4] : List Value) = [.int .i64 x.f0, .int .i64 x.f1, .int .i64 x.f2, .int .i64 x.f3, .int .i64 x.f4] := by
      have hx2 : l.getD i z51 = x := hx
      rw [Int.toNat_natCast, hx2]
    repeat (first
    | (apply gateO; first
      | refine Jl.yd (Y.mv rfl rfl) rfl rfl rfl ?_
      | refine Jl.yd (Y.asg rfl rfl) rfl rfl rfl ?_
      | refine Jl.yd (Y.ext rfl rfl rfl) rfl rfl rfl ?_
      | refine Jl.yd (Y.pickT rfl rfl rfl) rfl rfl rfl ?_
      | refine Jl.yd (Y.pickF rfl rfl rfl) rfl rfl rfl ?_
      | refine Jl.off rfl rfl rfl ?_
      | refine Jl.yd (Y.cmpF rfl rfl rfl rfl (by omega)) rfl rfl rfl ?_
      | refine Jl.yd (Y.cmpT rfl rfl rfl rfl (by omega)) rfl rfl rfl ?_
      | refine Jl.yd (Y.neqB rfl rfl rfl Try.underlying4) rfl rfl rfl ?_
      | refine Jl.yd (Y.cmp rfl rfl rfl rfl) rfl rfl rfl ?_
      | refine Jl.yd (Y.not rfl rfl) rfl rfl rfl ?_
      | refine Jl.yd (Y.arithN rfl rfl rfl rfl (by omega)) rfl rfl rfl ?_
      | refine Jl.yd (Y.arith64 rfl rfl rfl rfl) rfl rfl rfl ?_
      | refine Jl.yd (Y.loadA rfl rfl agg51 (by repeat (first | exact .head _ | refine .tail _ ?_)) (by rfl)) rfl rfl rfl ?_
      | refine Jl.storeA rfl rfl rfl rfl rfl sz51 (by repeat (first | exact .z | apply SetAt.s)) (by rfl) (by rfl) ?_
      | refine Jl.yd (Y.lenS Try.underlying25 rfl rfl rfl) rfl rfl rfl ?_
      | refine Jl.yd (Y.lenS Try.underlying29 rfl rfl rfl) rfl rfl rfl ?_
      | refine Jl.yd (Y.lenS Try.underlying80 rfl rfl rfl) rfl rfl rfl ?_
      | refine Jl.yd (Y.idx rfl rfl rfl el25 (by omega) (by omega)) rfl rfl rfl ?_
      | refine Jl.yd (Y.loadK z51 [.int .i64 x.f0, .int .i64 x.f1, .int .i64 x.f2, .int .i64 x.f3, .int .i64 x.f4] rfl rfl agg51 (by repeat (first | exact .head _ | refine .tail _ ?_)) (i : Int) (by omega) (by omega) (by rfl) (fun w cs h => (k51_open h).trans hus) (by rfl)) rfl rfl rfl ?_
      | refine Jl.lit0V rfl rfl rfl rfl el80 3 w.heap.size (fun g2 => ?_)
      | refine Jl.alloc rfl rfl rfl rfl zero51 (fun g7 => ?_)
      | refine Jl.splitG rfl rfl (fun h => ?_) (fun h => ?_))
    | (apply gateE; first
      | refine Jl.nil (Ej.go ?_ (fun _ _ h => h))
      | (refine Jl.nil (Ej.back (fun _ _ h => h) (by repeat (first | exact .refl | apply DropTo.tail)) ?_); repeat (first | exact trivial | refine ⟨rfl, ?_⟩)))
    | (apply gateC; first
      | refine Cj.block rfl ?_
      | refine Cj.condF rfl rfl (Cj.skip rfl (Ej.go ?_ (fun _ _ h => h)))
      | (refine Cj.condF rfl rfl (Cj.skip rfl (Ej.back (fun _ _ h => h) (by repeat (first | exact .refl | apply DropTo.tail)) ?_)); repeat (first | exact trivial | refine ⟨rfl, ?_⟩))
      | refine Cj.condF rfl rfl ?_
      | refine Cj.condT rfl rfl ?_
      | refine Cj.exit rfl (Ej.go ?_ (fun _ _ h => h))
      | refine Cj.cond rfl rfl (fun h => ?_) (fun h => ?_)
      | refine Cj.skip rfl (Ej.go ?_ (fun _ _ h => h))
      | (refine Cj.skip rfl (Ej.back (fun _ _ h => h) (by repeat (first | exact .refl | apply DropTo.tail)) ?_); repeat (first | exact trivial | refine ⟨rfl, ?_⟩))
      | refine Cj.seq rfl ?_
      | refine Cj.region rfl ?_))
    refine Cj.loopP (ι := Nat × Option Addr × Nat × List Value) (fun q => q.1 ≤ vs.length ∧ q.2.2.2.length = (midN m x.f1 (plansTo l m i) q.1).length) (fun q => [(0, .slice (some ad0) l.length c0), (1, .slice A1 m.length c1), (5, .slice A vs.length c), (7, .pointer (some ⟨g7, 0, none⟩)), (8, .slice q.2.1 q.2.2.2.length q.2.2.1), (15, .slice (some ad0) l.length c0), (16, .int .i64 (l.length : Int)), (17, .int .i64 (i : Int)), (22, .slice A vs.length c), (23, .int .i64 (vs.length : Int)), (24, .int .i64 (q.1 : Int))]) (fun q => [.row K1 29 0 (.slice q.2.1 (q.2.2.2 : List Value).length q.2.2.1) (q.2.2.2.map cell1), .box g7 51 [.int .i64 x.f0, .int .i64 x.f1, .int .i64 x.f2, .int .i64 x.f3, .int .i64 x.f4]]) (fun q => [EV 3 w.heap.size q.2.2.2 (midN m x.f1 (plansTo l m i) q.1), GV 29 3 w.heap.size (.slice A (vs : List Value).length c) vs (plansTo l m i), (fun W => Kd.C k51 W (some ad0) l.length l), (fun W => Kd.C (Kd.int .i64) W A1 m.length m)]) (fun q => vs.length - q.1) rfl (0, some ⟨g2, 0, none⟩, 0, []) ⟨Nat.zero_le _, rfl⟩ ⟨rfl, rfl, rfl, rfl, rfl, rfl, rfl, rfl, rfl, rfl, rfl, trivial⟩ (by repeat (first | exact .nil | refine Pick.cons (by repeat (first | exact .z | apply OutAt.s)) ?_)) (fun p hp => hp) (fun q hj => ?_)
    obtain ⟨j, A2, c2, vs2⟩ := q
    dsimp only at hj ⊢
    obtain ⟨hj, hvl2⟩ := hj
    by_cases hjl : j < vs.length
    · obtain ⟨p, hp⟩ : ∃ p, (plansTo l m i)[j]? = some p := ⟨_, List.getElem?_eq_getElem (by omega)⟩
      obtain ⟨u, hu0⟩ : ∃ u, vs[j]? = some u := ⟨_, List.getElem?_eq_getElem hjl⟩
      have hpn : nth (plansTo l m i) j [] = p := by unfold nth; rw [List.getD_eq_getElem?_getD, hp]; rfl
      have hu : vs[((j : Int)).toNat]? = some u := by rw [Int.toNat_natCast]; exact hu0
      have hplen : p.length = i := (plansTo_sound l m i p (List.mem_of_getElem? hp)).1
      refine Cj.ws (ι := Option Addr × Nat) (fun q => (u = .slice q.1 p.length q.2 ∧ p.length ≤ q.2) ∧ ∃ ad, A = some ad) (fun _ => [.row K1 29 0 (.slice A2 (vs2 : List Value).length c2) (vs2.map cell1), .box g7 51 [.int .i64 x.f0, .int .i64 x.f1, .int .i64 x.f2, .int .i64 x.f3, .int .i64 x.f4]]) (fun q => [(fun W => (Kd.int .i64).C W q.1 p.length p), EV 3 w.heap.size vs2 (midN m x.f1 (plansTo l m i) j), GV 29 3 w.heap.size (.slice A (vs : List Value).length c) vs (plansTo l m i), (fun W => Kd.C k51 W (some ad0) l.length l), (fun W => Kd.C (Kd.int .i64) W A1 m.length m)]) (fun w' hW => by
        have hG : GV 29 3 w.heap.size (.slice A vs.length c) vs (plansTo l m i) w' := hW.fact (by repeat (first | exact memH | refine memT ?_))
        obtain ⟨ad, e, _⟩ := hG.reads.2.2.2.2 (by simpa using by omega)
        obtain ⟨Ap, cp, hup, hW2⟩ := (hW.elsV (eS := 29) (v := .slice A vs.length c) (by repeat (first | exact memH | refine memT ?_))).elV (List.mem_cons_self) hp hu0
        refine ⟨(Ap, cp), ⟨hup, ad, e⟩, hW2.sub (fun q hq => ?_)⟩
        rcases List.mem_cons.1 hq with rfl | hq
        · exact List.mem_cons_self
        · exact List.mem_cons_of_mem _ (List.mem_cons_of_mem _ hq)) (fun q hq => ?_)
      obtain ⟨Ap, cp⟩ := q
      obtain ⟨⟨rfl, hcp⟩, ad, rfl⟩ := hq
      dsimp only at hcp ⊢
      repeat (first
    | (apply gateO; first
      | refine Jl.yd (Y.mv rfl rfl) rfl rfl rfl ?_
      | refine Jl.yd (Y.asg rfl rfl) rfl rfl rfl ?_
      | refine Jl.yd (Y.ext rfl rfl rfl) rfl rfl rfl ?_
      | refine Jl.yd (Y.pickT rfl rfl rfl) rfl rfl rfl ?_
      | refine Jl.yd (Y.pickF rfl rfl rfl) rfl rfl rfl ?_
      | refine Jl.off rfl rfl rfl ?_
      | refine Jl.yd (Y.cmpF rfl rfl rfl rfl (by omega)) rfl rfl rfl ?_
      | refine Jl.yd (Y.cmpT rfl rfl rfl rfl (by omega)) rfl rfl rfl ?_
      | refine Jl.yd (Y.neqB rfl rfl rfl Try.underlying4) rfl rfl rfl ?_
      | refine Jl.yd (Y.cmp rfl rfl rfl rfl) rfl rfl rfl ?_
      | refine Jl.yd (Y.not rfl rfl) rfl rfl rfl ?_
      | refine Jl.yd (Y.arithN rfl rfl rfl rfl (by omega)) rfl rfl rfl ?_
      | refine Jl.yd (Y.arith64 rfl rfl rfl rfl) rfl rfl rfl ?_
      | refine Jl.yd (Y.lenS Try.underlying25 rfl rfl rfl) rfl rfl rfl ?_
      | refine Jl.yd (Y.lenS Try.underlying29 rfl rfl rfl) rfl rfl rfl ?_
      | refine Jl.yd (Y.lenS Try.underlying80 rfl rfl rfl) rfl rfl rfl ?_
      | refine Jl.yd (Y.idx rfl rfl rfl el80 (by omega) (by omega)) rfl rfl rfl ?_
      | refine Jl.yd (Y.loadV rfl rfl sc29 (by repeat (first | exact .head _ | refine .tail _ ?_)) (j : Int) (by omega) (by omega) rfl hu) rfl rfl rfl ?_
      | refine Jl.splitG rfl rfl (fun h => ?_) (fun h => ?_))
    | (apply gateE; first
      | refine Jl.nil (Ej.go ?_ (fun _ _ h => h))
      | (refine Jl.nil (Ej.back (fun _ _ h => h) (by repeat (first | exact .refl | apply DropTo.tail)) ?_); repeat (first | exact trivial | refine ⟨rfl, ?_⟩)))
    | (apply gateC; first
      | refine Cj.block rfl ?_
      | refine Cj.condF rfl rfl (Cj.skip rfl (Ej.go ?_ (fun _ _ h => h)))
      | (refine Cj.condF rfl rfl (Cj.skip rfl (Ej.back (fun _ _ h => h) (by repeat (first | exact .refl | apply DropTo.tail)) ?_)); repeat (first | exact trivial | refine ⟨rfl, ?_⟩))
      | refine Cj.condF rfl rfl ?_
      | refine Cj.condT rfl rfl ?_
      | refine Cj.exit rfl (Ej.go ?_ (fun _ _ h => h))
      | refine Cj.cond rfl rfl (fun h => ?_) (fun h => ?_)
      | refine Cj.skip rfl (Ej.go ?_ (fun _ _ h => h))
      | (refine Cj.skip rfl (Ej.back (fun _ _ h => h) (by repeat (first | exact .refl | apply DropTo.tail)) ?_); repeat (first | exact trivial | refine ⟨rfl, ?_⟩))
      | refine Cj.seq rfl ?_
      | refine Cj.region rfl ?_))
      refine Cj.loopP (ι := Nat × Option Addr × Nat × List Value) (fun q => q.1 ≤ m.length ∧ q.2.2.2.length = (midN m x.f1 (plansTo l m i) j ++ extN m x.f1 p q.1).length) (fun q => [(0, .slice (some ad0) l.length c0), (1, .slice A1 m.length c1), (5, .slice (some ad) vs.length c), (7, .pointer (some ⟨g7, 0, none⟩)), (8, .slice q.2.1 q.2.2.2.length q.2.2.1), (15, .slice (some ad0) l.length c0), (16, .int .i64 (l.length : Int)), (17, .int .i64 (i : Int)), (22, .slice (some ad) vs.length c), (23, .int .i64 (vs.length : Int)), (24, .int .i64 (j : Int)), (10, .slice Ap p.length cp), (28, .slice A1 m.length c1), (29, .int .i64 (m.length : Int)), (30, .int .i64 (q.1 : Int))]) (fun q => [.row K1 29 0 (.slice q.2.1 (q.2.2.2 : List Value).length q.2.2.1) (q.2.2.2.map cell1), .box g7 51 [.int .i64 x.f0, .int .i64 x.f1, .int .i64 x.f2, .int .i64 x.f3, .int .i64 x.f4]]) (fun q => [EV 3 w.heap.size q.2.2.2 (midN m x.f1 (plansTo l m i) j ++ extN m x.f1 p q.1), (fun W => (Kd.int .i64).C W Ap p.length p), GV 29 3 w.heap.size (.slice (some ad) (vs : List Value).length c) vs (plansTo l m i), (fun W => Kd.C k51 W (some ad0) l.length l), (fun W => Kd.C (Kd.int .i64) W A1 m.length m)]) (fun q => m.length - q.1) rfl (0, A2, c2, vs2) ⟨Nat.zero_le _, by simpa [extN] using hvl2⟩ ⟨rfl, rfl, rfl, rfl, rfl, rfl, rfl, rfl, rfl, rfl, rfl, rfl, rfl, rfl, rfl, trivial⟩ (by repeat (first | exact .nil | refine Pick.cons (by repeat (first | exact .z | apply OutAt.s)) ?_)) (fun q hq => by
        simp only [List.mem_cons, extN, List.append_nil] at hq ⊢
        rcases hq with rfl | rfl | hq
        · exact .inr (.inl rfl)
        · exact .inl rfl
        · exact .inr (.inr hq)) (fun q hk => ?_)
      obtain ⟨k, A3', c3', vs3⟩ := q
      dsimp only at hk ⊢
      obtain ⟨hk, hvl3⟩ := hk
      by_cases hkl : k < m.length
      · obtain ⟨ad1, rfl⟩ : ∃ ad, A1 = some ad := by
          obtain ⟨ad, e, _⟩ := hr1.2.2 (by omega)
          exact ⟨ad, e⟩
        have hb1 := midN_len m x.f1 (plansTo l m i) j
        have hb2 := extN_len m x.f1 p k
        have hb3 : j * m.length ≤ 729 * 3 := Nat.mul_le_mul (by omega) hm3
        rw [List.length_append] at hvl3
        have hnk : m.getD ((k : Int)).toNat 0 = nth m k 0 := by rw [Int.toNat_natCast]; rfl
        by_cases hw : m.getD ((k : Int)).toNat 0 ≥ x.f1
        · have hE : midN m x.f1 (plansTo l m i) j ++ extN m x.f1 p (k + 1) = (midN m x.f1 (plansTo l m i) j ++ extN m x.f1 p k) ++ [p ++ [(k : Int)]] := by
            rw [extN, if_pos (by rw [← hnk]; exact hw), List.append_assoc]
          repeat (first
    | (apply gateO; first
      | refine Jl.yd (Y.mv rfl rfl) rfl rfl rfl ?_
      | refine Jl.yd (Y.asg rfl rfl) rfl rfl rfl ?_
      | refine Jl.yd (Y.ext rfl rfl rfl) rfl rfl rfl ?_
      | refine Jl.yd (Y.pickT rfl rfl rfl) rfl rfl rfl ?_
      | refine Jl.yd (Y.pickF rfl rfl rfl) rfl rfl rfl ?_
      | refine Jl.off rfl rfl rfl ?_
      | refine Jl.yd (Y.cmpF rfl rfl rfl rfl (by omega)) rfl rfl rfl ?_
      | refine Jl.yd (Y.cmpT rfl rfl rfl rfl (by omega)) rfl rfl rfl ?_
      | refine Jl.yd (Y.neqB rfl rfl rfl Try.underlying4) rfl rfl rfl ?_
      | refine Jl.yd (Y.cmp rfl rfl rfl rfl) rfl rfl rfl ?_
      | refine Jl.yd (Y.not rfl rfl) rfl rfl rfl ?_
      | refine Jl.yd (Y.arithN rfl rfl rfl rfl (by omega)) rfl rfl rfl ?_
      | refine Jl.yd (Y.arith64 rfl rfl rfl rfl) rfl rfl rfl ?_
      | refine Jl.yd (Y.load1 rfl rfl sc3 (by repeat (first | exact .head _ | refine .tail _ ?_)) (by rfl)) rfl rfl rfl ?_
      | refine Jl.yd (Y.fld0 rfl rfl fld51_1) rfl rfl rfl ?_
      | refine Jl.yd (Y.lenS Try.underlying25 rfl rfl rfl) rfl rfl rfl ?_
      | refine Jl.yd (Y.lenS Try.underlying29 rfl rfl rfl) rfl rfl rfl ?_
      | refine Jl.yd (Y.lenS Try.underlying80 rfl rfl rfl) rfl rfl rfl ?_
      | refine Jl.yd (Y.idx rfl rfl rfl el29 (by omega) (by omega)) rfl rfl rfl ?_
      | refine Jl.yd (Y.loadI rfl rfl sc3 (by repeat (first | exact .head _ | refine .tail _ ?_)) (k : Int) (by omega) (by omega) rfl) rfl rfl rfl ?_
      | refine Jl.yd (Y.cmpT rfl rfl rfl rfl (by omega)) rfl rfl rfl ?_
      | refine Jl.callR 0 (fun v => v) rfl rfl rfl rfl en91 rfl (fun w hW => by with_reducible exact slices_Clone_int_int.calls Ap cp p p w (hW.fact (p := (fun W => (Kd.int .i64).C W Ap p.length p)) (by repeat (first | exact memH | refine memT ?_))) hcp (clone_f p (by omega))) (fun A3 c3 hl3 => ?_)
      | refine Jl.lit1 rfl rfl rfl rfl rfl el29 zero3 rfl (fun g4 => ?_)
      | refine Jl.lit1 rfl rfl rfl rfl rfl el80 zero29 rfl (fun g5 => ?_)
      | refine Jl.app (dk := Kd.int .i64) (xs := p) (k : Int) (fun _ => False) rfl rfl rfl rfl rfl rfl ap29 (by repeat (first | exact .head _ | refine .tail _ ?_)) rfl (fun w => rfl) (fun u hu => by rw [List.mem_singleton.1 hu]; rfl) (by repeat (first | exact .z | apply OutAt.s)) (by omega) (by omega) (fun A6 c6 hc6 => ?_)
      | refine Jl.appV (vs := vs3) (xs := midN m x.f1 (plansTo l m i) j ++ extN m x.f1 p k) rfl rfl rfl rfl rfl rfl ap80 (by repeat (first | exact .head _ | refine .tail _ ?_)) rfl (by repeat (first | exact .z | apply OutAt.s)) (by repeat (first | exact .z | apply OutAt.s)) (by repeat (first | exact .head _ | refine .tail _ ?_)) (by omega) (by omega) (fun A7 c7 hc7 => ?_)
      | refine Jl.splitG rfl rfl (fun h => ?_) (fun h => ?_))
    | (apply gateE; first
      | refine Jl.nil (Ej.go ?_ (fun _ _ h => h))
      | (refine Jl.nil (Ej.back (fun _ _ h => h) (by repeat (first | exact .refl | apply DropTo.tail)) ?_); repeat (first | exact trivial | refine ⟨rfl, ?_⟩)))
    | (apply gateC; first
      | refine Cj.block rfl ?_
      | refine Cj.condF rfl rfl (Cj.skip rfl (Ej.go ?_ (fun _ _ h => h)))
      | (refine Cj.condF rfl rfl (Cj.skip rfl (Ej.back (fun _ _ h => h) (by repeat (first | exact .refl | apply DropTo.tail)) ?_)); repeat (first | exact trivial | refine ⟨rfl, ?_⟩))
      | refine Cj.condF rfl rfl ?_
      | refine Cj.condT rfl rfl ?_
      | refine Cj.exit rfl (Ej.go ?_ (fun _ _ h => h))
      | refine Cj.cond rfl rfl (fun h => ?_) (fun h => ?_)
      | refine Cj.skip rfl (Ej.go ?_ (fun _ _ h => h))
      | (refine Cj.skip rfl (Ej.back (fun _ _ h => h) (by repeat (first | exact .refl | apply DropTo.tail)) ?_); repeat (first | exact trivial | refine ⟨rfl, ?_⟩))
      | refine Cj.seq rfl ?_
      | refine Cj.region rfl ?_))
          refine Jl.nil (Ej.cutP (ι := Nat × Option Addr × Nat × List Value) _ _ _ _ (fun _ _ h => h) (k + 1, A7, c7, vs3 ++ [.slice A6 (p ++ [(k : Int)]).length c6]) ⟨⟨by omega, by dsimp only; rw [hE]; simp only [List.length_append, List.length_cons, List.length_nil]; omega⟩, by dsimp only; omega⟩ ⟨rfl, rfl, rfl, rfl, rfl, rfl, rfl, rfl, rfl, rfl, rfl, rfl, rfl, rfl, rfl, trivial⟩ (by repeat (first | exact .nil | refine Pick.cons (by repeat (first | exact .z | apply OutAt.s)) ?_)) (fun q hq => by
            dsimp only at hq; rw [hE] at hq
            rcases List.mem_cons.1 hq with rfl | hq
            · exact List.mem_cons_self
            · exact List.mem_cons_of_mem _ (List.mem_cons_of_mem _ hq)))
        · have hE : extN m x.f1 p (k + 1) = extN m x.f1 p k := by
            rw [extN, if_neg (by rw [← hnk]; exact hw)]
          repeat (first
    | (apply gateO; first
      | refine Jl.yd (Y.mv rfl rfl) rfl rfl rfl ?_
      | refine Jl.yd (Y.asg rfl rfl) rfl rfl rfl ?_
      | refine Jl.yd (Y.ext rfl rfl rfl) rfl rfl rfl ?_
      | refine Jl.yd (Y.pickT rfl rfl rfl) rfl rfl rfl ?_
      | refine Jl.yd (Y.pickF rfl rfl rfl) rfl rfl rfl ?_
      | refine Jl.off rfl rfl rfl ?_
      | refine Jl.yd (Y.cmpF rfl rfl rfl rfl (by omega)) rfl rfl rfl ?_
      | refine Jl.yd (Y.cmpT rfl rfl rfl rfl (by omega)) rfl rfl rfl ?_
      | refine Jl.yd (Y.neqB rfl rfl rfl Try.underlying4) rfl rfl rfl ?_
      | refine Jl.yd (Y.cmp rfl rfl rfl rfl) rfl rfl rfl ?_
      | refine Jl.yd (Y.not rfl rfl) rfl rfl rfl ?_
      | refine Jl.yd (Y.arithN rfl rfl rfl rfl (by omega)) rfl rfl rfl ?_
      | refine Jl.yd (Y.arith64 rfl rfl rfl rfl) rfl rfl rfl ?_
      | refine Jl.yd (Y.load1 rfl rfl sc3 (by repeat (first | exact .head _ | refine .tail _ ?_)) (by rfl)) rfl rfl rfl ?_
      | refine Jl.yd (Y.fld0 rfl rfl fld51_1) rfl rfl rfl ?_
      | refine Jl.yd (Y.lenS Try.underlying25 rfl rfl rfl) rfl rfl rfl ?_
      | refine Jl.yd (Y.lenS Try.underlying29 rfl rfl rfl) rfl rfl rfl ?_
      | refine Jl.yd (Y.lenS Try.underlying80 rfl rfl rfl) rfl rfl rfl ?_
      | refine Jl.yd (Y.idx rfl rfl rfl el29 (by omega) (by omega)) rfl rfl rfl ?_
      | refine Jl.yd (Y.loadI rfl rfl sc3 (by repeat (first | exact .head _ | refine .tail _ ?_)) (k : Int) (by omega) (by omega) rfl) rfl rfl rfl ?_
      | refine Jl.yd (Y.cmpF rfl rfl rfl rfl (by omega)) rfl rfl rfl ?_
      | refine Jl.splitG rfl rfl (fun h => ?_) (fun h => ?_))
    | (apply gateE; first
      | refine Jl.nil (Ej.go ?_ (fun _ _ h => h))
      | (refine Jl.nil (Ej.back (fun _ _ h => h) (by repeat (first | exact .refl | apply DropTo.tail)) ?_); repeat (first | exact trivial | refine ⟨rfl, ?_⟩)))
    | (apply gateC; first
      | refine Cj.block rfl ?_
      | refine Cj.condF rfl rfl (Cj.skip rfl (Ej.go ?_ (fun _ _ h => h)))
      | (refine Cj.condF rfl rfl (Cj.skip rfl (Ej.back (fun _ _ h => h) (by repeat (first | exact .refl | apply DropTo.tail)) ?_)); repeat (first | exact trivial | refine ⟨rfl, ?_⟩))
      | refine Cj.condF rfl rfl ?_
      | refine Cj.condT rfl rfl ?_
      | refine Cj.exit rfl (Ej.go ?_ (fun _ _ h => h))
      | refine Cj.cond rfl rfl (fun h => ?_) (fun h => ?_)
      | refine Cj.skip rfl (Ej.go ?_ (fun _ _ h => h))
      | (refine Cj.skip rfl (Ej.back (fun _ _ h => h) (by repeat (first | exact .refl | apply DropTo.tail)) ?_); repeat (first | exact trivial | refine ⟨rfl, ?_⟩))
      | refine Cj.seq rfl ?_
      | refine Cj.region rfl ?_))
          refine Jl.nil (Ej.cutP (ι := Nat × Option Addr × Nat × List Value) _ _ _ _ (fun _ _ h => h) (k + 1, A3', c3', vs3) ⟨⟨by omega, by dsimp only; rw [hE, List.length_append]; exact hvl3⟩, by dsimp only; omega⟩ ⟨rfl, rfl, rfl, rfl, rfl, rfl, rfl, rfl, rfl, rfl, rfl, rfl, rfl, rfl, rfl, trivial⟩ (by repeat (first | exact .nil | refine Pick.cons (by repeat (first | exact .z | apply OutAt.s)) ?_)) (fun q hq => by dsimp only at hq; rw [hE] at hq; exact hq))
      · obtain rfl : k = m.length := by omega
        repeat (first
    | (apply gateO; first
      | refine Jl.yd (Y.mv rfl rfl) rfl rfl rfl ?_
      | refine Jl.yd (Y.asg rfl rfl) rfl rfl rfl ?_
      | refine Jl.yd (Y.ext rfl rfl rfl) rfl rfl rfl ?_
      | refine Jl.yd (Y.pickT rfl rfl rfl) rfl rfl rfl ?_
      | refine Jl.yd (Y.pickF rfl rfl rfl) rfl rfl rfl ?_
      | refine Jl.off rfl rfl rfl ?_
      | refine Jl.yd (Y.cmpF rfl rfl rfl rfl (by omega)) rfl rfl rfl ?_
      | refine Jl.yd (Y.cmpT rfl rfl rfl rfl (by omega)) rfl rfl rfl ?_
      | refine Jl.yd (Y.neqB rfl rfl rfl Try.underlying4) rfl rfl rfl ?_
      | refine Jl.yd (Y.cmp rfl rfl rfl rfl) rfl rfl rfl ?_
      | refine Jl.yd (Y.not rfl rfl) rfl rfl rfl ?_
      | refine Jl.yd (Y.arithN rfl rfl rfl rfl (by omega)) rfl rfl rfl ?_
      | refine Jl.yd (Y.arith64 rfl rfl rfl rfl) rfl rfl rfl ?_
      | refine Jl.splitG rfl rfl (fun h => ?_) (fun h => ?_))
    | (apply gateE; first
      | refine Jl.nil (Ej.go ?_ (fun _ _ h => h))
      | (refine Jl.nil (Ej.back (fun _ _ h => h) (by repeat (first | exact .refl | apply DropTo.tail)) ?_); repeat (first | exact trivial | refine ⟨rfl, ?_⟩)))
    | (apply gateC; first
      | refine Cj.block rfl ?_
      | refine Cj.condF rfl rfl (Cj.skip rfl (Ej.go ?_ (fun _ _ h => h)))
      | (refine Cj.condF rfl rfl (Cj.skip rfl (Ej.back (fun _ _ h => h) (by repeat (first | exact .refl | apply DropTo.tail)) ?_)); repeat (first | exact trivial | refine ⟨rfl, ?_⟩))
      | refine Cj.condF rfl rfl ?_
      | refine Cj.condT rfl rfl ?_
      | refine Cj.exit rfl (Ej.go ?_ (fun _ _ h => h))
      | refine Cj.cond rfl rfl (fun h => ?_) (fun h => ?_)
      | refine Cj.skip rfl (Ej.go ?_ (fun _ _ h => h))
      | (refine Cj.skip rfl (Ej.back (fun _ _ h => h) (by repeat (first | exact .refl | apply DropTo.tail)) ?_); repeat (first | exact trivial | refine ⟨rfl, ?_⟩))
      | refine Cj.seq rfl ?_
      | refine Cj.region rfl ?_))
        have hE : midN m x.f1 (plansTo l m i) (j + 1) = midN m x.f1 (plansTo l m i) j ++ extN m x.f1 p m.length := by rw [midN, hpn]
        refine Jl.nil (Ej.cutP (ι := Nat × Option Addr × Nat × List Value) _ _ _ _ (fun _ _ h => h) (j + 1, A3', c3', vs3) ⟨⟨by omega, by dsimp only; rw [hE]; exact hvl3⟩, by dsimp only; omega⟩ ⟨rfl, rfl, rfl, rfl, rfl, rfl, rfl, rfl, rfl, rfl, rfl, trivial⟩ (by repeat (first | exact .nil | refine Pick.cons (by repeat (first | exact .z | apply OutAt.s)) ?_)) (fun q hq => by
          dsimp only at hq; rw [hE] at hq
          simp only [List.mem_cons] at hq ⊢
          rcases hq with h | h | h
          · exact .inl h
          · exact .inr (.inr (.inl h))
          · exact .inr (.inr (.inr h))))
    · obtain rfl : j = vs.length := by omega
      repeat (first
    | (apply gateO; first
      | refine Jl.yd (Y.mv rfl rfl) rfl rfl rfl ?_
      | refine Jl.yd (Y.asg rfl rfl) rfl rfl rfl ?_
      | refine Jl.yd (Y.ext rfl rfl rfl) rfl rfl rfl ?_
      | refine Jl.yd (Y.pickT rfl rfl rfl) rfl rfl rfl ?_
      | refine Jl.yd (Y.pickF rfl rfl rfl) rfl rfl rfl ?_
      | refine Jl.off rfl rfl rfl ?_
      | refine Jl.yd (Y.cmpF rfl rfl rfl rfl (by omega)) rfl rfl rfl ?_
      | refine Jl.yd (Y.cmpT rfl rfl rfl rfl (by omega)) rfl rfl rfl ?_
      | refine Jl.yd (Y.neqB rfl rfl rfl Try.underlying4) rfl rfl rfl ?_
      | refine Jl.yd (Y.cmp rfl rfl rfl rfl) rfl rfl rfl ?_
      | refine Jl.yd (Y.not rfl rfl) rfl rfl rfl ?_
      | refine Jl.yd (Y.arithN rfl rfl rfl rfl (by omega)) rfl rfl rfl ?_
      | refine Jl.yd (Y.arith64 rfl rfl rfl rfl) rfl rfl rfl ?_
      | refine Jl.splitG rfl rfl (fun h => ?_) (fun h => ?_))
    | (apply gateE; first
      | refine Jl.nil (Ej.go ?_ (fun _ _ h => h))
      | (refine Jl.nil (Ej.back (fun _ _ h => h) (by repeat (first | exact .refl | apply DropTo.tail)) ?_); repeat (first | exact trivial | refine ⟨rfl, ?_⟩)))
    | (apply gateC; first
      | refine Cj.block rfl ?_
      | refine Cj.condF rfl rfl (Cj.skip rfl (Ej.go ?_ (fun _ _ h => h)))
      | (refine Cj.condF rfl rfl (Cj.skip rfl (Ej.back (fun _ _ h => h) (by repeat (first | exact .refl | apply DropTo.tail)) ?_)); repeat (first | exact trivial | refine ⟨rfl, ?_⟩))
      | refine Cj.condF rfl rfl ?_
      | refine Cj.condT rfl rfl ?_
      | refine Cj.exit rfl (Ej.go ?_ (fun _ _ h => h))
      | refine Cj.cond rfl rfl (fun h => ?_) (fun h => ?_)
      | refine Cj.skip rfl (Ej.go ?_ (fun _ _ h => h))
      | (refine Cj.skip rfl (Ej.back (fun _ _ h => h) (by repeat (first | exact .refl | apply DropTo.tail)) ?_); repeat (first | exact trivial | refine ⟨rfl, ?_⟩))
      | refine Cj.seq rfl ?_
      | refine Cj.region rfl ?_))
      refine Jl.nil (Ej.ws (ι := Unit) (fun _ => True) (fun _ => [.box g7 51 [.int .i64 x.f0, .int .i64 x.f1, .int .i64 x.f2, .int .i64 x.f3, .int .i64 x.f4]]) (fun _ => [GV 29 3 w.heap.size (.slice A2 vs2.length c2) vs2 (plansTo l m (i + 1)), (fun W => Kd.C k51 W (some ad0) l.length l), (fun W => Kd.C (Kd.int .i64) W A1 m.length m)]) (fun w' hW => ⟨(), trivial, by
        have h1 := WS.wholeV (n := 0) (eS := 29) (eI := 3) (vs := vs2) (xs := midN m x.f1 (plansTo l m i) vs.length) hW rfl List.mem_cons_self
        have e : plansTo l m (i + 1) = midN m x.f1 (plansTo l m i) vs.length := by rw [plansTo, hx, ← hvl]
        rw [e]
        refine h1.sub (fun q hq => ?_)
        rcases List.mem_cons.1 hq with rfl | hq
        · exact List.mem_cons_self
        · exact List.mem_cons_of_mem _ (List.mem_cons_of_mem _ (List.mem_cons_of_mem _ hq))⟩) (fun _ _ => ?_))
      refine Ej.cutP (ι := Nat × Option Addr × Nat × List Value) _ _ _ _ (fun _ _ h => h) (i + 1, A2, c2, vs2) ⟨⟨by omega, by dsimp only; rw [plansTo, hx, ← hvl]; exact hvl2⟩, by dsimp only; omega⟩ ⟨rfl, rfl, rfl, rfl, rfl, rfl, trivial⟩ (by repeat (first | exact .nil | refine Pick.cons (by repeat (first | exact .z | apply OutAt.s)) ?_)) (fun q hq => hq)
  · obtain rfl : i = l.length := by omega
    repeat (first
    | (apply gateO; first
      | refine Jl.yd (Y.mv rfl rfl) rfl rfl rfl ?_
      | refine Jl.yd (Y.asg rfl rfl) rfl rfl rfl ?_
      | refine Jl.yd (Y.ext rfl rfl rfl) rfl rfl rfl ?_
      | refine Jl.yd (Y.pickT rfl rfl rfl) rfl rfl rfl ?_
      | refine Jl.yd (Y.pickF rfl rfl rfl) rfl rfl rfl ?_
      | refine Jl.off rfl rfl rfl ?_
      | refine Jl.yd (Y.cmpF rfl rfl rfl rfl (by omega)) rfl rfl rfl ?_
      | refine Jl.yd (Y.cmpT rfl rfl rfl rfl (by omega)) rfl rfl rfl ?_
      | refine Jl.yd (Y.neqB rfl rfl rfl Try.underlying4) rfl rfl rfl ?_
      | refine Jl.yd (Y.cmp rfl rfl rfl rfl) rfl rfl rfl ?_
      | refine Jl.yd (Y.not rfl rfl) rfl rfl rfl ?_
      | refine Jl.yd (Y.arithN rfl rfl rfl rfl (by omega)) rfl rfl rfl ?_
      | refine Jl.yd (Y.arith64 rfl rfl rfl rfl) rfl rfl rfl ?_
      | refine Jl.splitG rfl rfl (fun h => ?_) (fun h => ?_))
    | (apply gateE; first
      | refine Jl.nil (Ej.go ?_ (fun _ _ h => h))
      | (refine Jl.nil (Ej.back (fun _ _ h => h) (by repeat (first | exact .refl | apply DropTo.tail)) ?_); repeat (first | exact trivial | refine ⟨rfl, ?_⟩)))
    | (apply gateC; first
      | refine Cj.block rfl ?_
      | refine Cj.condF rfl rfl (Cj.skip rfl (Ej.go ?_ (fun _ _ h => h)))
      | (refine Cj.condF rfl rfl (Cj.skip rfl (Ej.back (fun _ _ h => h) (by repeat (first | exact .refl | apply DropTo.tail)) ?_)); repeat (first | exact trivial | refine ⟨rfl, ?_⟩))
      | refine Cj.condF rfl rfl ?_
      | refine Cj.condT rfl rfl ?_
      | refine Cj.exit rfl (Ej.go ?_ (fun _ _ h => h))
      | refine Cj.cond rfl rfl (fun h => ?_) (fun h => ?_)
      | refine Cj.skip rfl (Ej.go ?_ (fun _ _ h => h))
      | (refine Cj.skip rfl (Ej.back (fun _ _ h => h) (by repeat (first | exact .refl | apply DropTo.tail)) ?_); repeat (first | exact trivial | refine ⟨rfl, ?_⟩))
      | refine Cj.seq rfl ?_
      | refine Cj.region rfl ?_))
    refine Cj.ret rfl (Ej.out1 (P := Try.prog) (fn := Try.f74) (R := Rr) (fun _ _ h => h) rfl rfl (fun w' hW => ⟨A, c, vs, rfl, hW.fact (by repeat (first | exact memH | refine memT ?_)), hW.below⟩))
end Pl
theorem cmp_f (a b : Int) : cmp_Compare_int.f a b = some (cmpI a b) := by
  unfold cmp_Compare_int.f cmp_isNaN_int.f cmpI
  rw [show (a != a) = false by simp, show (b != b) = false by simp]
  simp only [Option.bind_some, Bool.false_eq_true, if_false]
  repeat' split
  all_goals rfl
theorem or_f (a b : Int) : cmp_Or_int.f 4 [a, b] = some (orI a b) := by
  unfold cmp_Or_int.f orI
  have h2 : wrap64 1 = 1 := by unfold wrap64; omega
  have h3 : wrap64 2 = 2 := by unfold wrap64; omega
  by_cases h : a = 0
  · by_cases h' : b = 0
    · simp [cmp_Or_int.l0, rd, h2, h3, h, h']
    · simp [cmp_Or_int.l0, rd, h2, h3, h, h']
  · simp [cmp_Or_int.l0, rd, h2, h3, h]
theorem cmp_c (a b : Int) (w : World) : Calls Try.prog 77 #[.int .i64 a, .int .i64 b] w fun e w' => e = .returned (.int .i64 (cmpI a b)) ∧ Below w.heap.size w w' := (cmp_Compare_int.calls a b _ w (cmp_f a b)).mono (fun _ _ h => ⟨h.1, h.2.below⟩)
theorem or_c (g : Nat) (a b : Int) (w : World) (h : w.heap[g]? = some (.cells [.int .i64 a, .int .i64 b].toArray 3 (0, 0))) : Calls Try.prog 78 #[.slice (some ⟨g, 0, none⟩) 2 2] w fun e w' => e = .returned (.int .i64 (orI a b)) ∧ Below w.heap.size w w' :=
  (cmp_Or_int.calls 4 (some ⟨g, 0, none⟩) 2 [a, b] _ w (C_box [a, b] h (by simp)) (Nat.le_refl _) (or_f a b)).mono (fun _ _ h => ⟨h.1, h.2.below⟩)
namespace Cl
set_option maxHeartbeats 4000000 in
theorem calls (A0 : Option Addr) (c0 : Nat) (l : List S51) (A1 : Option Addr) (c1 : Nat) (m : List Int) (Ax : Option Addr) (cx : Nat) (p : List Int) (Ay : Option Addr) (cy : Nat) (q : List Int) (gj gm : Nat) (w : World) (hr0 : Kd.C k51 w A0 l.length l) (hc0 : l.length ≤ c0) (hr1 : Kd.C (Kd.int .i64) w A1 m.length m) (hc1 : m.length ≤ c1)
    (hrx : Kd.C (Kd.int .i64) w Ax p.length p) (hcx : p.length ≤ cx) (hry : Kd.C (Kd.int .i64) w Ay q.length q) (hcy : q.length ≤ cy) (hgj : Cells w ⟨gj, 0, none⟩ [.slice A0 l.length c0]) (hgm : Cells w ⟨gm, 0, none⟩ [.slice A1 m.length c1])
    (ep fp eq fq : List Int) (dp dq xp xq : Int) (kp kq jp jq ip iq : Nat) (hp : impl_ends.f kp l m p = some (ep, fp)) (hq : impl_ends.f kq l m q = some (eq, fq)) (hdp : impl_lateDays.f jp l m p = some dp) (hdq : impl_lateDays.f jq l m q = some dq) (hxp : slices_Max_int_int.f ip fp = some xp) (hxq : slices_Max_int_int.f iq fq = some xq) :
    Calls Try.prog 76 #[.slice Ax p.length cx, .slice Ay q.length cy, .pointer (some ⟨gj, 0, none⟩), .pointer (some ⟨gm, 0, none⟩)] w fun e w' => e = .returned (.int .i64 (orI (cmpI dp dq) (cmpI xp xq))) ∧ Below w.heap.size w w' := by
  let Rr : Ending → World → Prop := fun e w' => e = .returned (.int .i64 (orI (cmpI dp dq) (cmpI xp xq))) ∧ Below w.heap.size w w'
  refine enterW (args := [.slice Ax p.length cx, .slice Ay q.length cy, .pointer (some ⟨gj, 0, none⟩), .pointer (some ⟨gm, 0, none⟩)]) [(fun W => Kd.C k51 W A0 l.length l), (fun W => Kd.C (Kd.int .i64) W A1 m.length m), (fun W => (Kd.int .i64).C W Ax p.length p), (fun W => (Kd.int .i64).C W Ay q.length q), (fun W => Cells W ⟨gj, 0, none⟩ [.slice A0 l.length c0]), (fun W => Cells W ⟨gm, 0, none⟩ [.slice A1 m.length c1])] (fun p hp W hb => by
    rcases List.mem_cons.1 hp with rfl | hp
    · exact Kd.C_below hr0 hb
    rcases List.mem_cons.1 hp with rfl | hp
    · exact Kd.C_below hr1 hb
    rcases List.mem_cons.1 hp with rfl | hp
    · exact Kd.C_below hrx hb
    rcases List.mem_cons.1 hp with rfl | hp
    · exact Kd.C_below hry hb
    rcases List.mem_cons.1 hp with rfl | hp
    · exact Cells_below hgj hb
    · rw [List.mem_singleton.1 hp]; exact Cells_below hgm hb) Try.func76 rfl rfl ?_
  show Cj Try.prog _ _ _ (bodyPost Try.prog Try.f76 Rr) _ _ _
  repeat (first
    | (apply gateO; first
      | refine Jl.yd (Y.mv rfl rfl) rfl rfl rfl ?_
      | refine Jl.yd (Y.asg rfl rfl) rfl rfl rfl ?_
      | refine Jl.yd (Y.ext rfl rfl rfl) rfl rfl rfl ?_
      | refine Jl.yd (Y.pickT rfl rfl rfl) rfl rfl rfl ?_
      | refine Jl.yd (Y.pickF rfl rfl rfl) rfl rfl rfl ?_
      | refine Jl.off rfl rfl rfl ?_
      | refine Jl.yd (Y.cmpF rfl rfl rfl rfl (by omega)) rfl rfl rfl ?_
      | refine Jl.yd (Y.cmpT rfl rfl rfl rfl (by omega)) rfl rfl rfl ?_
      | refine Jl.yd (Y.neqB rfl rfl rfl Try.underlying4) rfl rfl rfl ?_
      | refine Jl.yd (Y.cmp rfl rfl rfl rfl) rfl rfl rfl ?_
      | refine Jl.yd (Y.not rfl rfl) rfl rfl rfl ?_
      | refine Jl.yd (Y.arithN rfl rfl rfl rfl (by omega)) rfl rfl rfl ?_
      | refine Jl.yd (Y.arith64 rfl rfl rfl rfl) rfl rfl rfl ?_
      | refine Jl.yd (Y.loadG (ad := ⟨gj, 0, none⟩) (us := [.slice A0 l.length c0]) rfl rfl (by with_reducible (repeat (first | exact memH | refine memT ?_))) sc25 0 rfl rfl) rfl rfl rfl ?_
      | refine Jl.yd (Y.loadG (ad := ⟨gm, 0, none⟩) (us := [.slice A1 m.length c1]) rfl rfl (by with_reducible (repeat (first | exact memH | refine memT ?_))) sc29 0 rfl rfl) rfl rfl rfl ?_
      | refine Jl.draw2 (fun v0 v1 => .tuple #[v0, v1]) ep fp rfl rfl rfl rfl en63 rfl (fun w hW => by with_reducible exact impl_ends.calls kp A0 c0 l A1 c1 m Ax cx p ep fp w (hW.fact (p := (fun W => Kd.C k51 W A0 l.length l)) (by repeat (first | exact memH | refine memT ?_))) hc0 (hW.fact (p := (fun W => Kd.C (Kd.int .i64) W A1 m.length m)) (by repeat (first | exact memH | refine memT ?_))) hc1 (hW.fact (p := (fun W => (Kd.int .i64).C W Ax p.length p)) (by repeat (first | exact memH | refine memT ?_))) hcx hp) (fun Ap1 cp1 Ap2 cp2 hlp1 hlp2 => ?_)
      | refine Jl.draw2 (fun v0 v1 => .tuple #[v0, v1]) eq fq rfl rfl rfl rfl en63 rfl (fun w hW => by with_reducible exact impl_ends.calls kq A0 c0 l A1 c1 m Ay cy q eq fq w (hW.fact (p := (fun W => Kd.C k51 W A0 l.length l)) (by repeat (first | exact memH | refine memT ?_))) hc0 (hW.fact (p := (fun W => Kd.C (Kd.int .i64) W A1 m.length m)) (by repeat (first | exact memH | refine memT ?_))) hc1 (hW.fact (p := (fun W => (Kd.int .i64).C W Ay q.length q)) (by repeat (first | exact memH | refine memT ?_))) hcy hq) (fun Aq1 cq1 Aq2 cq2 hlq1 hlq2 => ?_)
      | refine Jl.call1 (v := .int .i64 dp) rfl rfl rfl rfl en65 rfl (fun w hW => by with_reducible exact impl_lateDays.calls jp A0 c0 l A1 c1 m Ax cx p dp w (hW.fact (p := (fun W => Kd.C k51 W A0 l.length l)) (by repeat (first | exact memH | refine memT ?_))) hc0 (hW.fact (p := (fun W => Kd.C (Kd.int .i64) W A1 m.length m)) (by repeat (first | exact memH | refine memT ?_))) hc1 (hW.fact (p := (fun W => (Kd.int .i64).C W Ax p.length p)) (by repeat (first | exact memH | refine memT ?_))) hcx hdp) ?_
      | refine Jl.call1 (v := .int .i64 dq) rfl rfl rfl rfl en65 rfl (fun w hW => by with_reducible exact impl_lateDays.calls jq A0 c0 l A1 c1 m Ay cy q dq w (hW.fact (p := (fun W => Kd.C k51 W A0 l.length l)) (by repeat (first | exact memH | refine memT ?_))) hc0 (hW.fact (p := (fun W => Kd.C (Kd.int .i64) W A1 m.length m)) (by repeat (first | exact memH | refine memT ?_))) hc1 (hW.fact (p := (fun W => (Kd.int .i64).C W Ay q.length q)) (by repeat (first | exact memH | refine memT ?_))) hcy hdq) ?_
      | refine Jl.call1 (v := .int .i64 (cmpI dp dq)) rfl rfl rfl rfl en77 rfl (fun w hW => by with_reducible exact cmp_c dp dq w) ?_
      | refine Jl.call1 (v := .int .i64 xp) rfl rfl rfl rfl en67 rfl (fun w hW => by with_reducible exact slices_Max_int_int.calls ip Ap2 cp2 fp xp w (hW.fact (p := (fun W => (Kd.int .i64).C W Ap2 fp.length fp)) (by repeat (first | exact memH | refine memT ?_))) hlp2 hxp) ?_
      | refine Jl.call1 (v := .int .i64 xq) rfl rfl rfl rfl en67 rfl (fun w hW => by with_reducible exact slices_Max_int_int.calls iq Aq2 cq2 fq xq w (hW.fact (p := (fun W => (Kd.int .i64).C W Aq2 fq.length fq)) (by repeat (first | exact memH | refine memT ?_))) hlq2 hxq) ?_
      | refine Jl.call1 (v := .int .i64 (cmpI xp xq)) rfl rfl rfl rfl en77 rfl (fun w hW => by with_reducible exact cmp_c xp xq w) ?_
      | refine Jl.lit2 rfl rfl rfl rfl rfl rfl el29 zero3 (fun g7 => ?_)
      | refine Jl.call1 (v := .int .i64 (orI (cmpI dp dq) (cmpI xp xq))) rfl rfl rfl rfl en78 rfl (fun w hW => by with_reducible exact or_c g7 _ _ w (Box_at hW (by repeat (first | exact memH | refine memT ?_)))) ?_
      | refine Jl.splitG rfl rfl (fun h => ?_) (fun h => ?_))
    | (apply gateE; first
      | refine Jl.nil (Ej.go ?_ (fun _ _ h => h))
      | (refine Jl.nil (Ej.back (fun _ _ h => h) (by repeat (first | exact .refl | apply DropTo.tail)) ?_); repeat (first | exact trivial | refine ⟨rfl, ?_⟩)))
    | (apply gateC; first
      | refine Cj.block rfl ?_
      | refine Cj.regionD rfl (mkD [0, 1, 2, 3, 4, 5] []) [] [0, 1, 2, 4, 5, 6, 3, 7, 8, 9] mixed (by decide +kernel) ?_
      | refine Cj.ret rfl (Ej.out1 (P := Try.prog) (fn := Try.f76) (R := Rr) (fun _ _ h => h) rfl rfl (fun w' hW => ⟨rfl, hW.below⟩))
      | refine Cj.condF rfl rfl (Cj.skip rfl (Ej.go ?_ (fun _ _ h => h)))
      | (refine Cj.condF rfl rfl (Cj.skip rfl (Ej.back (fun _ _ h => h) (by repeat (first | exact .refl | apply DropTo.tail)) ?_)); repeat (first | exact trivial | refine ⟨rfl, ?_⟩))
      | refine Cj.condF rfl rfl ?_
      | refine Cj.condT rfl rfl ?_
      | refine Cj.exit rfl (Ej.go ?_ (fun _ _ h => h))
      | refine Cj.cond rfl rfl (fun h => ?_) (fun h => ?_)
      | refine Cj.skip rfl (Ej.go ?_ (fun _ _ h => h))
      | (refine Cj.skip rfl (Ej.back (fun _ _ h => h) (by repeat (first | exact .refl | apply DropTo.tail)) ?_); repeat (first | exact trivial | refine ⟨rfl, ?_⟩))
      | refine Cj.seq rfl ?_
      | refine Cj.region rfl ?_))
end Cl
namespace Mn
set_option maxHeartbeats 4000000 in
theorem calls (A0 : Option Addr) (c0 : Nat) (l : List S51) (A1 : Option Addr) (c1 : Nat) (m : List Int) (gj gm : Nat) (ad : Addr) (c : Nat) (vs : List Value) (xs : List (List Int)) (b0 : Nat) (w : World) (hr0 : Kd.C k51 w A0 l.length l) (hc0 : l.length ≤ c0) (hr1 : Kd.C (Kd.int .i64) w A1 m.length m) (hc1 : m.length ≤ c1)
    (hgj : Cells w ⟨gj, 0, none⟩ [.slice A0 l.length c0]) (hgm : Cells w ⟨gm, 0, none⟩ [.slice A1 m.length c1]) (hG : GV 29 3 b0 (.slice (some ad) vs.length c) vs xs w) (hx0 : 0 < xs.length) (hx1 : xs.length ≤ 1048576) (hev : ∀ p, p ∈ xs → EvP l m p) :
    Calls Try.prog 75 #[.slice (some ad) (vs : List Value).length c, .func (.func 76) #[] #[.pointer (some ⟨gj, 0, none⟩), .pointer (some ⟨gm, 0, none⟩)]] w fun e w' => e = .returned (nth vs (bxP l m xs (xs.length - 1)) undef) ∧ Below w.heap.size w w' := by
  have hvl := hG.els.len
  let Rr : Ending → World → Prop := fun e w' => e = .returned (nth vs (bxP l m xs (xs.length - 1)) undef) ∧ Below w.heap.size w w'
  obtain ⟨u0, hu0⟩ : ∃ u, vs[0]? = some u := ⟨_, List.getElem?_eq_getElem (by omega)⟩
  have h0v : vs[((0 : Int)).toNat]? = some u0 := hu0
  have h0n : nth vs 0 undef = u0 := by unfold nth; rw [List.getD_eq_getElem?_getD, hu0]; rfl
  refine enterW (args := [.slice (some ad) (vs : List Value).length c, .func (.func 76) #[] #[.pointer (some ⟨gj, 0, none⟩), .pointer (some ⟨gm, 0, none⟩)]]) [GV 29 3 b0 (.slice (some ad) vs.length c) vs xs, (fun W => Kd.C k51 W A0 l.length l), (fun W => Kd.C (Kd.int .i64) W A1 m.length m), (fun W => Cells W ⟨gj, 0, none⟩ [.slice A0 l.length c0]), (fun W => Cells W ⟨gm, 0, none⟩ [.slice A1 m.length c1])] (fun p hp W hb => by
    rcases List.mem_cons.1 hp with rfl | hp
    · exact hG.move (fun k _ hk => hb.block k hk)
    rcases List.mem_cons.1 hp with rfl | hp
    · exact Kd.C_below hr0 hb
    rcases List.mem_cons.1 hp with rfl | hp
    · exact Kd.C_below hr1 hb
    rcases List.mem_cons.1 hp with rfl | hp
    · exact Cells_below hgj hb
    · rw [List.mem_singleton.1 hp]; exact Cells_below hgm hb) Try.func75 rfl rfl ?_
  show Cj Try.prog _ _ _ (bodyPost Try.prog Try.f75 Rr) _ _ _
  repeat (first
    | (apply gateO; first
      | refine Jl.yd (Y.mv rfl rfl) rfl rfl rfl ?_
      | refine Jl.yd (Y.asg rfl rfl) rfl rfl rfl ?_
      | refine Jl.yd (Y.ext rfl rfl rfl) rfl rfl rfl ?_
      | refine Jl.yd (Y.pickT rfl rfl rfl) rfl rfl rfl ?_
      | refine Jl.yd (Y.pickF rfl rfl rfl) rfl rfl rfl ?_
      | refine Jl.off rfl rfl rfl ?_
      | refine Jl.yd (Y.cmpF rfl rfl rfl rfl (by omega)) rfl rfl rfl ?_
      | refine Jl.yd (Y.cmpT rfl rfl rfl rfl (by omega)) rfl rfl rfl ?_
      | refine Jl.yd (Y.neqB rfl rfl rfl Try.underlying4) rfl rfl rfl ?_
      | refine Jl.yd (Y.cmp rfl rfl rfl rfl) rfl rfl rfl ?_
      | refine Jl.yd (Y.not rfl rfl) rfl rfl rfl ?_
      | refine Jl.yd (Y.arithN rfl rfl rfl rfl (by omega)) rfl rfl rfl ?_
      | refine Jl.yd (Y.arith64 rfl rfl rfl rfl) rfl rfl rfl ?_
      | refine Jl.yd (Y.lenS Try.underlying80 rfl rfl rfl) rfl rfl rfl ?_
      | refine Jl.yd (Y.cmpF rfl rfl rfl rfl (by omega)) rfl rfl rfl ?_
      | refine Jl.yd (Y.idx rfl rfl rfl el80 (by omega) (by omega)) rfl rfl rfl ?_
      | refine Jl.yd (Y.loadV rfl rfl sc29 (by with_reducible (repeat (first | exact memH | refine memT ?_))) (0 : Int) (by omega) (by omega) rfl h0v) rfl rfl rfl ?_
      | refine Jl.splitG rfl rfl (fun h => ?_) (fun h => ?_))
    | (apply gateE; first
      | refine Jl.nil (Ej.go ?_ (fun _ _ h => h))
      | (refine Jl.nil (Ej.back (fun _ _ h => h) (by repeat (first | exact .refl | apply DropTo.tail)) ?_); repeat (first | exact trivial | refine ⟨rfl, ?_⟩)))
    | (apply gateC; first
      | refine Cj.block rfl ?_
      | refine Cj.condF rfl rfl (Cj.skip rfl (Ej.go ?_ (fun _ _ h => h)))
      | (refine Cj.condF rfl rfl (Cj.skip rfl (Ej.back (fun _ _ h => h) (by repeat (first | exact .refl | apply DropTo.tail)) ?_)); repeat (first | exact trivial | refine ⟨rfl, ?_⟩))
      | refine Cj.condF rfl rfl ?_
      | refine Cj.condT rfl rfl ?_
      | refine Cj.exit rfl (Ej.go ?_ (fun _ _ h => h))
      | refine Cj.cond rfl rfl (fun h => ?_) (fun h => ?_)
      | refine Cj.skip rfl (Ej.go ?_ (fun _ _ h => h))
      | (refine Cj.skip rfl (Ej.back (fun _ _ h => h) (by repeat (first | exact .refl | apply DropTo.tail)) ?_); repeat (first | exact trivial | refine ⟨rfl, ?_⟩))
      | refine Cj.seq rfl ?_
      | refine Cj.region rfl ?_))
  refine Cj.loopP (ι := Nat) (fun q => q + 1 ≤ xs.length) (fun q => [(0, .slice (some ad) (vs : List Value).length c), (1, .func (.func 76) #[] #[.pointer (some ⟨gj, 0, none⟩), .pointer (some ⟨gm, 0, none⟩)]), (5, nth vs (bxP l m xs q) undef), (6, .int .i64 ((q + 1 : Nat) : Int))]) (fun _ => []) (fun _ => [GV 29 3 b0 (.slice (some ad) vs.length c) vs xs, (fun W => Kd.C k51 W A0 l.length l), (fun W => Kd.C (Kd.int .i64) W A1 m.length m), (fun W => Cells W ⟨gj, 0, none⟩ [.slice A0 l.length c0]), (fun W => Cells W ⟨gm, 0, none⟩ [.slice A1 m.length c1])]) (fun q => xs.length - q) rfl 0 hx0 ⟨rfl, rfl, by show _ = some (nth vs 0 undef); rw [h0n]; rfl, rfl, trivial⟩ (by repeat (first | exact .nil | refine Pick.cons (by repeat (first | exact .z | apply OutAt.s)) ?_)) (fun p hp => hp) (fun n hn => ?_)
  try dsimp only at hn
  try dsimp only
  have hbl := bxP_le l m xs n
  by_cases hlt : n + 1 < xs.length
  · obtain ⟨p, hp⟩ : ∃ p, xs[n + 1]? = some p := ⟨_, List.getElem?_eq_getElem hlt⟩
    obtain ⟨u, hu⟩ : ∃ u, vs[n + 1]? = some u := ⟨_, List.getElem?_eq_getElem (by omega)⟩
    obtain ⟨q, hq⟩ : ∃ q, xs[bxP l m xs n]? = some q := ⟨_, List.getElem?_eq_getElem (by omega)⟩
    obtain ⟨v, hv⟩ : ∃ v, vs[bxP l m xs n]? = some v := ⟨_, List.getElem?_eq_getElem (by omega)⟩
    have hpn : nth xs (n + 1) [] = p := by unfold nth; rw [List.getD_eq_getElem?_getD, hp]; rfl
    have hqn : nth xs (bxP l m xs n) [] = q := by unfold nth; rw [List.getD_eq_getElem?_getD, hq]; rfl
    have hun : nth vs (n + 1) undef = u := by unfold nth; rw [List.getD_eq_getElem?_getD, hu]; rfl
    have hvn : nth vs (bxP l m xs n) undef = v := by unfold nth; rw [List.getD_eq_getElem?_getD, hv]; rfl
    have hup' : vs[(((n + 1 : Nat) : Int)).toNat]? = some u := by rw [Int.toNat_natCast]; exact hu
    obtain ⟨⟨ep, fp, ip, jp, kp, e1, e2, e3⟩⟩ := hev p (List.mem_of_getElem? hp)
    obtain ⟨⟨eq, fq, iq, jq, kq, g1, g2, g3⟩⟩ := hev q (List.mem_of_getElem? hq)
    have hbx := bxP_succ l m xs n
    rw [hpn, hqn] at hbx
    have hcb := cmp_better l m p q
    obtain ⟨R_, hRe⟩ : ∃ R_, R_ = orI (cmpI (lateP l m p) (lateP l m q)) (cmpI (lastP l m p) (lastP l m q)) := ⟨_, rfl⟩
    rw [← hRe] at hcb
    rw [hvn]
    refine Cj.ws (ι := (Option Addr × Nat) × (Option Addr × Nat)) (fun s => (u = .slice s.1.1 p.length s.1.2 ∧ p.length ≤ s.1.2) ∧ (v = .slice s.2.1 q.length s.2.2 ∧ q.length ≤ s.2.2)) (fun _ => []) (fun s => [(fun W => (Kd.int .i64).C W s.1.1 p.length p), (fun W => (Kd.int .i64).C W s.2.1 q.length q), GV 29 3 b0 (.slice (some ad) vs.length c) vs xs, (fun W => Kd.C k51 W A0 l.length l), (fun W => Kd.C (Kd.int .i64) W A1 m.length m), (fun W => Cells W ⟨gj, 0, none⟩ [.slice A0 l.length c0]), (fun W => Cells W ⟨gm, 0, none⟩ [.slice A1 m.length c1])]) (fun w' hW => by
      have h1 := hW.elsV (eS := 29) (eI := 3) (b := b0) (v := .slice (some ad) vs.length c) (vs := vs) (xs := xs) List.mem_cons_self
      obtain ⟨Ay, cy, hy, h2⟩ := h1.elV (List.mem_cons_self) hq hv
      obtain ⟨Ax, cx, hx, h3⟩ := h2.elV (List.mem_cons_of_mem _ List.mem_cons_self) hp hu
      refine ⟨((Ax, cx), (Ay, cy)), ⟨hx, hy⟩, h3.sub (fun r hr => ?_)⟩
      rcases List.mem_cons.1 hr with rfl | hr
      · exact List.mem_cons_self
      rcases List.mem_cons.1 hr with rfl | hr
      · exact List.mem_cons_of_mem _ List.mem_cons_self
      · exact List.mem_cons_of_mem _ (List.mem_cons_of_mem _ (List.mem_cons_of_mem _ hr))) (fun s hs => ?_)
    obtain ⟨⟨Ax, cx⟩, ⟨Ay, cy⟩⟩ := s
    obtain ⟨⟨rfl, hcx⟩, rfl, hcy⟩ := hs
    dsimp only at hcx hcy ⊢
    have hcl : ∀ w' : World, (Kd.int .i64).C w' Ax p.length p → (Kd.int .i64).C w' Ay q.length q → Kd.C k51 w' A0 l.length l → (Kd.int .i64).C w' A1 m.length m → Cells w' ⟨gj, 0, none⟩ [.slice A0 l.length c0] → Cells w' ⟨gm, 0, none⟩ [.slice A1 m.length c1] →
        Calls Try.prog 76 #[.slice Ax p.length cx, .slice Ay q.length cy, .pointer (some ⟨gj, 0, none⟩), .pointer (some ⟨gm, 0, none⟩)] w' fun e w'' => e = .returned (.int .i64 R_) ∧ Below w'.heap.size w' w'' := fun w' a1 a2 a3 a4 a5 a6 => by
      rw [hRe]
      exact Cl.calls A0 c0 l A1 c1 m Ax cx p Ay cy q gj gm w' a3 hc0 a4 hc1 a1 hcx a2 hcy a5 a6 ep fp eq fq _ _ _ _ ip iq jp jq kp kq e1 g1 e2 g2 e3 g3
    clear e1 e2 e3 g1 g2 g3
    by_cases hR : R_ < 0
    · have hb2 : bxP l m xs (n + 1) = n + 1 := by rw [hbx, if_pos (hcb.1 hR)]
      repeat (first
    | (apply gateO; first
      | refine Jl.yd (Y.mv rfl rfl) rfl rfl rfl ?_
      | refine Jl.yd (Y.asg rfl rfl) rfl rfl rfl ?_
      | refine Jl.yd (Y.ext rfl rfl rfl) rfl rfl rfl ?_
      | refine Jl.yd (Y.pickT rfl rfl rfl) rfl rfl rfl ?_
      | refine Jl.yd (Y.pickF rfl rfl rfl) rfl rfl rfl ?_
      | refine Jl.off rfl rfl rfl ?_
      | refine Jl.yd (Y.cmpF rfl rfl rfl rfl (by omega)) rfl rfl rfl ?_
      | refine Jl.yd (Y.cmpT rfl rfl rfl rfl (by omega)) rfl rfl rfl ?_
      | refine Jl.yd (Y.neqB rfl rfl rfl Try.underlying4) rfl rfl rfl ?_
      | refine Jl.yd (Y.cmp rfl rfl rfl rfl) rfl rfl rfl ?_
      | refine Jl.yd (Y.not rfl rfl) rfl rfl rfl ?_
      | refine Jl.yd (Y.arithN rfl rfl rfl rfl (by omega)) rfl rfl rfl ?_
      | refine Jl.yd (Y.arith64 rfl rfl rfl rfl) rfl rfl rfl ?_
      | refine Jl.yd (Y.lenS Try.underlying80 rfl rfl rfl) rfl rfl rfl ?_
      | refine Jl.yd (Y.idx rfl rfl rfl el80 (by omega) (by omega)) rfl rfl rfl ?_
      | refine Jl.yd (Y.loadV rfl rfl sc29 (by with_reducible (repeat (first | exact memH | refine memT ?_))) ((n + 1 : Nat) : Int) (by omega) (by omega) rfl hup') rfl rfl rfl ?_
      | refine Jl.callc (v := .int .i64 R_) rfl rfl rfl rfl rfl en76 rfl (fun w hW => hcl w (hW.fact (p := (fun W => (Kd.int .i64).C W Ax p.length p)) (by repeat (first | exact memH | refine memT ?_))) (hW.fact (p := (fun W => (Kd.int .i64).C W Ay q.length q)) (by repeat (first | exact memH | refine memT ?_))) (hW.fact (p := (fun W => Kd.C k51 W A0 l.length l)) (by repeat (first | exact memH | refine memT ?_))) (hW.fact (p := (fun W => Kd.C (Kd.int .i64) W A1 m.length m)) (by repeat (first | exact memH | refine memT ?_))) (hW.fact (p := (fun W => Cells W ⟨gj, 0, none⟩ [.slice A0 l.length c0])) (by repeat (first | exact memH | refine memT ?_))) (hW.fact (p := (fun W => Cells W ⟨gm, 0, none⟩ [.slice A1 m.length c1])) (by repeat (first | exact memH | refine memT ?_)))) ?_
      | refine Jl.yd (Y.cmpT rfl rfl rfl rfl hR) rfl rfl rfl ?_
      | refine Jl.splitG rfl rfl (fun h => ?_) (fun h => ?_))
    | (apply gateE; first
      | refine Jl.nil (Ej.go ?_ (fun _ _ h => h))
      | (refine Jl.nil (Ej.back (fun _ _ h => h) (by repeat (first | exact .refl | apply DropTo.tail)) ?_); repeat (first | exact trivial | refine ⟨rfl, ?_⟩)))
    | (apply gateC; first
      | refine Cj.block rfl ?_
      | refine Cj.condF rfl rfl (Cj.skip rfl (Ej.go ?_ (fun _ _ h => h)))
      | (refine Cj.condF rfl rfl (Cj.skip rfl (Ej.back (fun _ _ h => h) (by repeat (first | exact .refl | apply DropTo.tail)) ?_)); repeat (first | exact trivial | refine ⟨rfl, ?_⟩))
      | refine Cj.condF rfl rfl ?_
      | refine Cj.condT rfl rfl ?_
      | refine Cj.exit rfl (Ej.go ?_ (fun _ _ h => h))
      | refine Cj.cond rfl rfl (fun h => ?_) (fun h => ?_)
      | refine Cj.skip rfl (Ej.go ?_ (fun _ _ h => h))
      | (refine Cj.skip rfl (Ej.back (fun _ _ h => h) (by repeat (first | exact .refl | apply DropTo.tail)) ?_); repeat (first | exact trivial | refine ⟨rfl, ?_⟩))
      | refine Cj.seq rfl ?_
      | refine Cj.region rfl ?_))
      refine Jl.nil (Ej.cutP (ι := Nat) _ _ _ _ (fun _ _ h => h) (n + 1) ⟨by omega, by omega⟩ ⟨rfl, rfl, by show _ = some (nth vs (bxP l m xs (n + 1)) undef); rw [hb2, hun]; rfl, rfl, trivial⟩ (by repeat (first | exact .nil | refine Pick.cons (by repeat (first | exact .z | apply OutAt.s)) ?_)) (fun r hr => by repeat (first | exact hr | refine List.mem_cons_of_mem _ ?_)))
    · have hb2 : bxP l m xs (n + 1) = bxP l m xs n := by rw [hbx, if_neg (fun h => hR (hcb.2 h))]
      repeat (first
    | (apply gateO; first
      | refine Jl.yd (Y.mv rfl rfl) rfl rfl rfl ?_
      | refine Jl.yd (Y.asg rfl rfl) rfl rfl rfl ?_
      | refine Jl.yd (Y.ext rfl rfl rfl) rfl rfl rfl ?_
      | refine Jl.yd (Y.pickT rfl rfl rfl) rfl rfl rfl ?_
      | refine Jl.yd (Y.pickF rfl rfl rfl) rfl rfl rfl ?_
      | refine Jl.off rfl rfl rfl ?_
      | refine Jl.yd (Y.cmpF rfl rfl rfl rfl (by omega)) rfl rfl rfl ?_
      | refine Jl.yd (Y.cmpT rfl rfl rfl rfl (by omega)) rfl rfl rfl ?_
      | refine Jl.yd (Y.neqB rfl rfl rfl Try.underlying4) rfl rfl rfl ?_
      | refine Jl.yd (Y.cmp rfl rfl rfl rfl) rfl rfl rfl ?_
      | refine Jl.yd (Y.not rfl rfl) rfl rfl rfl ?_
      | refine Jl.yd (Y.arithN rfl rfl rfl rfl (by omega)) rfl rfl rfl ?_
      | refine Jl.yd (Y.arith64 rfl rfl rfl rfl) rfl rfl rfl ?_
      | refine Jl.yd (Y.lenS Try.underlying80 rfl rfl rfl) rfl rfl rfl ?_
      | refine Jl.yd (Y.idx rfl rfl rfl el80 (by omega) (by omega)) rfl rfl rfl ?_
      | refine Jl.yd (Y.loadV rfl rfl sc29 (by with_reducible (repeat (first | exact memH | refine memT ?_))) ((n + 1 : Nat) : Int) (by omega) (by omega) rfl hup') rfl rfl rfl ?_
      | refine Jl.callc (v := .int .i64 R_) rfl rfl rfl rfl rfl en76 rfl (fun w hW => hcl w (hW.fact (p := (fun W => (Kd.int .i64).C W Ax p.length p)) (by repeat (first | exact memH | refine memT ?_))) (hW.fact (p := (fun W => (Kd.int .i64).C W Ay q.length q)) (by repeat (first | exact memH | refine memT ?_))) (hW.fact (p := (fun W => Kd.C k51 W A0 l.length l)) (by repeat (first | exact memH | refine memT ?_))) (hW.fact (p := (fun W => Kd.C (Kd.int .i64) W A1 m.length m)) (by repeat (first | exact memH | refine memT ?_))) (hW.fact (p := (fun W => Cells W ⟨gj, 0, none⟩ [.slice A0 l.length c0])) (by repeat (first | exact memH | refine memT ?_))) (hW.fact (p := (fun W => Cells W ⟨gm, 0, none⟩ [.slice A1 m.length c1])) (by repeat (first | exact memH | refine memT ?_)))) ?_
      | refine Jl.yd (Y.cmpF rfl rfl rfl rfl hR) rfl rfl rfl ?_
      | refine Jl.splitG rfl rfl (fun h => ?_) (fun h => ?_))
    | (apply gateE; first
      | refine Jl.nil (Ej.go ?_ (fun _ _ h => h))
      | (refine Jl.nil (Ej.back (fun _ _ h => h) (by repeat (first | exact .refl | apply DropTo.tail)) ?_); repeat (first | exact trivial | refine ⟨rfl, ?_⟩)))
    | (apply gateC; first
      | refine Cj.block rfl ?_
      | refine Cj.condF rfl rfl (Cj.skip rfl (Ej.go ?_ (fun _ _ h => h)))
      | (refine Cj.condF rfl rfl (Cj.skip rfl (Ej.back (fun _ _ h => h) (by repeat (first | exact .refl | apply DropTo.tail)) ?_)); repeat (first | exact trivial | refine ⟨rfl, ?_⟩))
      | refine Cj.condF rfl rfl ?_
      | refine Cj.condT rfl rfl ?_
      | refine Cj.exit rfl (Ej.go ?_ (fun _ _ h => h))
      | refine Cj.cond rfl rfl (fun h => ?_) (fun h => ?_)
      | refine Cj.skip rfl (Ej.go ?_ (fun _ _ h => h))
      | (refine Cj.skip rfl (Ej.back (fun _ _ h => h) (by repeat (first | exact .refl | apply DropTo.tail)) ?_); repeat (first | exact trivial | refine ⟨rfl, ?_⟩))
      | refine Cj.seq rfl ?_
      | refine Cj.region rfl ?_))
      refine Jl.nil (Ej.cutP (ι := Nat) _ _ _ _ (fun _ _ h => h) (n + 1) ⟨by omega, by omega⟩ ⟨rfl, rfl, by show _ = some (nth vs (bxP l m xs (n + 1)) undef); rw [hb2, hvn]; rfl, rfl, trivial⟩ (by repeat (first | exact .nil | refine Pick.cons (by repeat (first | exact .z | apply OutAt.s)) ?_)) (fun r hr => by repeat (first | exact hr | refine List.mem_cons_of_mem _ ?_)))
  · repeat (first
    | (apply gateO; first
      | refine Jl.yd (Y.mv rfl rfl) rfl rfl rfl ?_
      | refine Jl.yd (Y.asg rfl rfl) rfl rfl rfl ?_
      | refine Jl.yd (Y.ext rfl rfl rfl) rfl rfl rfl ?_
      | refine Jl.yd (Y.pickT rfl rfl rfl) rfl rfl rfl ?_
      | refine Jl.yd (Y.pickF rfl rfl rfl) rfl rfl rfl ?_
      | refine Jl.off rfl rfl rfl ?_
      | refine Jl.yd (Y.cmpF rfl rfl rfl rfl (by omega)) rfl rfl rfl ?_
      | refine Jl.yd (Y.cmpT rfl rfl rfl rfl (by omega)) rfl rfl rfl ?_
      | refine Jl.yd (Y.neqB rfl rfl rfl Try.underlying4) rfl rfl rfl ?_
      | refine Jl.yd (Y.cmp rfl rfl rfl rfl) rfl rfl rfl ?_
      | refine Jl.yd (Y.not rfl rfl) rfl rfl rfl ?_
      | refine Jl.yd (Y.arithN rfl rfl rfl rfl (by omega)) rfl rfl rfl ?_
      | refine Jl.yd (Y.arith64 rfl rfl rfl rfl) rfl rfl rfl ?_
      | refine Jl.yd (Y.lenS Try.underlying80 rfl rfl rfl) rfl rfl rfl ?_
      | refine Jl.splitG rfl rfl (fun h => ?_) (fun h => ?_))
    | (apply gateE; first
      | refine Jl.nil (Ej.go ?_ (fun _ _ h => h))
      | (refine Jl.nil (Ej.back (fun _ _ h => h) (by repeat (first | exact .refl | apply DropTo.tail)) ?_); repeat (first | exact trivial | refine ⟨rfl, ?_⟩)))
    | (apply gateC; first
      | refine Cj.block rfl ?_
      | refine Cj.ret rfl (Ej.out1 (P := Try.prog) (fn := Try.f75) (R := Rr) (fun _ _ h => h) rfl rfl (fun w' hW => ⟨by rw [show xs.length - 1 = n by omega], hW.below⟩))
      | refine Cj.condF rfl rfl (Cj.skip rfl (Ej.go ?_ (fun _ _ h => h)))
      | (refine Cj.condF rfl rfl (Cj.skip rfl (Ej.back (fun _ _ h => h) (by repeat (first | exact .refl | apply DropTo.tail)) ?_)); repeat (first | exact trivial | refine ⟨rfl, ?_⟩))
      | refine Cj.condF rfl rfl ?_
      | refine Cj.condT rfl rfl ?_
      | refine Cj.exit rfl (Ej.go ?_ (fun _ _ h => h))
      | refine Cj.cond rfl rfl (fun h => ?_) (fun h => ?_)
      | refine Cj.skip rfl (Ej.go ?_ (fun _ _ h => h))
      | (refine Cj.skip rfl (Ej.back (fun _ _ h => h) (by repeat (first | exact .refl | apply DropTo.tail)) ?_); repeat (first | exact trivial | refine ⟨rfl, ?_⟩))
      | refine Cj.seq rfl ?_
      | refine Cj.region rfl ?_))
end Mn
theorem mkFn2 {P : Program} {N : Nat} {B : Base} {L : Sl} {its : List Go.Proofs.YtcgpibbbkdhpeaaW.SL.Item} {ps : List (World → Prop)} {o : Oper} {x y : Operand} {f : FuncId} {u v : Value} (hop : o.op = .makeFunc (.func f) #[] #[x, y]) (hx : ev L x = some u) (hy : ev L y = some v) : Yd P N B o (.func (.func f) #[] #[u, v]) L its ps := .mk <| fun a w hf hW => by
  unfold execOp; rw [hop]; simp [Instr.makeFunc, hf.ev hx, hf.ev hy]
theorem cells1 {w : World} {g T : Nat} {u : Value} (h : w.heap[g]? = some (.cells [u].toArray T (0, 0))) : Cells w ⟨g, 0, none⟩ [u] := by simpa using Box_cells h 0
namespace Mj
set_option maxHeartbeats 4000000 in
theorem calls (A0 : Option Addr) (c0 : Nat) (l : List S51) (A1 : Option Addr) (c1 : Nat) (m : List Int) (w : World) (hr0 : Kd.C k51 w A0 l.length l) (hc0 : l.length ≤ c0) (hr1 : Kd.C (Kd.int .i64) w A1 m.length m) (hc1 : m.length ≤ c1) (kj : Nat) (hj : impl_AreJobs.f kj l = some false) :
    Calls Try.prog 44 #[.slice A0 l.length c0, .slice A1 m.length c1] w fun e w' => ∃ v : Value, e = .returned (.tuple #[v, .bool false]) ∧ Kd.R (Kd.int .i64) 3 w' w.heap.size (fun _ => True) v [] ∧ Below w.heap.size w w' := by
  let Rr : Ending → World → Prop := fun e w' => ∃ v : Value, e = .returned (.tuple #[v, .bool false]) ∧ Kd.R (Kd.int .i64) 3 w' w.heap.size (fun _ => True) v [] ∧ Below w.heap.size w w'
  refine enterW (args := [.slice A0 l.length c0, .slice A1 m.length c1]) [(fun W => Kd.C k51 W A0 l.length l), (fun W => Kd.C (Kd.int .i64) W A1 m.length m)] (fun p hp W hb => by
    rcases List.mem_cons.1 hp with rfl | hp
    · exact Kd.C_below hr0 hb
    · rw [List.mem_singleton.1 hp]; exact Kd.C_below hr1 hb) Try.func44 rfl rfl ?_
  show Cj Try.prog _ _ _ (bodyPost Try.prog Try.f44 Rr) _ _ _
  repeat (first
    | (apply gateO; first
      | refine Jl.yd (Y.mv rfl rfl) rfl rfl rfl ?_
      | refine Jl.yd (Y.asg rfl rfl) rfl rfl rfl ?_
      | refine Jl.yd (Y.ext rfl rfl rfl) rfl rfl rfl ?_
      | refine Jl.yd (Y.pickT rfl rfl rfl) rfl rfl rfl ?_
      | refine Jl.yd (Y.pickF rfl rfl rfl) rfl rfl rfl ?_
      | refine Jl.off rfl rfl rfl ?_
      | refine Jl.yd (Y.cmpF rfl rfl rfl rfl (by omega)) rfl rfl rfl ?_
      | refine Jl.yd (Y.cmpT rfl rfl rfl rfl (by omega)) rfl rfl rfl ?_
      | refine Jl.yd (Y.neqB rfl rfl rfl Try.underlying4) rfl rfl rfl ?_
      | refine Jl.yd (Y.cmp rfl rfl rfl rfl) rfl rfl rfl ?_
      | refine Jl.yd (Y.not rfl rfl) rfl rfl rfl ?_
      | refine Jl.yd (Y.arithN rfl rfl rfl rfl (by omega)) rfl rfl rfl ?_
      | refine Jl.yd (Y.arith64 rfl rfl rfl rfl) rfl rfl rfl ?_
      | refine Jl.yd (Y.load1 rfl rfl sc25 (by repeat (first | exact .head _ | refine .tail _ ?_)) (by rfl)) rfl rfl rfl ?_
      | refine Jl.yd (Y.load1 rfl rfl sc29 (by repeat (first | exact .head _ | refine .tail _ ?_)) (by rfl)) rfl rfl rfl ?_
      | refine Jl.yd (Y.lenS Try.underlying25 rfl rfl rfl) rfl rfl rfl ?_
      | refine Jl.yd (Y.lenS Try.underlying29 rfl rfl rfl) rfl rfl rfl ?_
      | refine Jl.yd (Y.lenS Try.underlying80 rfl rfl rfl) rfl rfl rfl ?_
      | refine Jl.box (zs := [.slice A0 l.length c0]) rfl rfl rfl rfl rfl (by rfl) (fun gj => ?_)
      | refine Jl.box (zs := [.slice A1 m.length c1]) rfl rfl rfl rfl rfl (by rfl) (fun gm => ?_)
      | refine Jl.yd (Y.load1 rfl rfl sc25 (by repeat (first | exact .head _ | refine .tail _ ?_)) (by rfl)) rfl rfl rfl ?_
      | refine Jl.yd (Y.load1 rfl rfl sc29 (by repeat (first | exact .head _ | refine .tail _ ?_)) (by rfl)) rfl rfl rfl ?_
      | refine Jl.call1 (v := .bool false) rfl rfl rfl rfl en17 rfl (fun w hW => by with_reducible exact impl_AreJobs.calls kj A0 c0 l false w (hW.fact (p := (fun W => Kd.C k51 W A0 l.length l)) (by repeat (first | exact memH | refine memT ?_))) hc0 hj) ?_
      | refine Jl.splitG rfl rfl (fun h => ?_) (fun h => ?_))
    | (apply gateE; first
      | refine Jl.nil (Ej.go ?_ (fun _ _ h => h))
      | (refine Jl.nil (Ej.back (fun _ _ h => h) (by repeat (first | exact .refl | apply DropTo.tail)) ?_); repeat (first | exact trivial | refine ⟨rfl, ?_⟩)))
    | (apply gateC; first
      | refine Cj.block rfl ?_
      | refine Cj.ret rfl (Ej.out2 (P := Try.prog) (fn := Try.f44) (R := Rr) (fun _ _ h => h) rfl rfl rfl (fun w' hW => ?_))
      | refine Cj.condF rfl rfl (Cj.skip rfl (Ej.go ?_ (fun _ _ h => h)))
      | (refine Cj.condF rfl rfl (Cj.skip rfl (Ej.back (fun _ _ h => h) (by repeat (first | exact .refl | apply DropTo.tail)) ?_)); repeat (first | exact trivial | refine ⟨rfl, ?_⟩))
      | refine Cj.condF rfl rfl ?_
      | refine Cj.condT rfl rfl ?_
      | refine Cj.exit rfl (Ej.go ?_ (fun _ _ h => h))
      | refine Cj.cond rfl rfl (fun h => ?_) (fun h => ?_)
      | refine Cj.skip rfl (Ej.go ?_ (fun _ _ h => h))
      | (refine Cj.skip rfl (Ej.back (fun _ _ h => h) (by repeat (first | exact .refl | apply DropTo.tail)) ?_); repeat (first | exact trivial | refine ⟨rfl, ?_⟩))
      | refine Cj.seq rfl ?_
      | refine Cj.region rfl ?_))
  exact ⟨_, rfl, Kd.R_nil _ _ _ _ _, hW.below⟩
end Mj
namespace Ml
set_option maxHeartbeats 4000000 in
theorem calls (A0 : Option Addr) (c0 : Nat) (l : List S51) (A1 : Option Addr) (c1 : Nat) (m : List Int) (w : World) (hr0 : Kd.C k51 w A0 l.length l) (hc0 : l.length ≤ c0) (hr1 : Kd.C (Kd.int .i64) w A1 m.length m) (hc1 : m.length ≤ c1) (kj : Nat) (hj : impl_AreJobs.f kj l = some true) (hl : impl_areJobLooms.f m = some false) :
    Calls Try.prog 44 #[.slice A0 l.length c0, .slice A1 m.length c1] w fun e w' => ∃ v : Value, e = .returned (.tuple #[v, .bool false]) ∧ Kd.R (Kd.int .i64) 3 w' w.heap.size (fun _ => True) v [] ∧ Below w.heap.size w w' := by
  let Rr : Ending → World → Prop := fun e w' => ∃ v : Value, e = .returned (.tuple #[v, .bool false]) ∧ Kd.R (Kd.int .i64) 3 w' w.heap.size (fun _ => True) v [] ∧ Below w.heap.size w w'
  refine enterW (args := [.slice A0 l.length c0, .slice A1 m.length c1]) [(fun W => Kd.C k51 W A0 l.length l), (fun W => Kd.C (Kd.int .i64) W A1 m.length m)] (fun p hp W hb => by
    rcases List.mem_cons.1 hp with rfl | hp
    · exact Kd.C_below hr0 hb
    · rw [List.mem_singleton.1 hp]; exact Kd.C_below hr1 hb) Try.func44 rfl rfl ?_
  show Cj Try.prog _ _ _ (bodyPost Try.prog Try.f44 Rr) _ _ _
  repeat (first
    | (apply gateO; first
      | refine Jl.yd (Y.mv rfl rfl) rfl rfl rfl ?_
      | refine Jl.yd (Y.asg rfl rfl) rfl rfl rfl ?_
      | refine Jl.yd (Y.ext rfl rfl rfl) rfl rfl rfl ?_
      | refine Jl.yd (Y.pickT rfl rfl rfl) rfl rfl rfl ?_
      | refine Jl.yd (Y.pickF rfl rfl rfl) rfl rfl rfl ?_
      | refine Jl.off rfl rfl rfl ?_
      | refine Jl.yd (Y.cmpF rfl rfl rfl rfl (by omega)) rfl rfl rfl ?_
      | refine Jl.yd (Y.cmpT rfl rfl rfl rfl (by omega)) rfl rfl rfl ?_
      | refine Jl.yd (Y.neqB rfl rfl rfl Try.underlying4) rfl rfl rfl ?_
      | refine Jl.yd (Y.cmp rfl rfl rfl rfl) rfl rfl rfl ?_
      | refine Jl.yd (Y.not rfl rfl) rfl rfl rfl ?_
      | refine Jl.yd (Y.arithN rfl rfl rfl rfl (by omega)) rfl rfl rfl ?_
      | refine Jl.yd (Y.arith64 rfl rfl rfl rfl) rfl rfl rfl ?_
      | refine Jl.yd (Y.load1 rfl rfl sc25 (by repeat (first | exact .head _ | refine .tail _ ?_)) (by rfl)) rfl rfl rfl ?_
      | refine Jl.yd (Y.load1 rfl rfl sc29 (by repeat (first | exact .head _ | refine .tail _ ?_)) (by rfl)) rfl rfl rfl ?_
      | refine Jl.yd (Y.lenS Try.underlying25 rfl rfl rfl) rfl rfl rfl ?_
      | refine Jl.yd (Y.lenS Try.underlying29 rfl rfl rfl) rfl rfl rfl ?_
      | refine Jl.yd (Y.lenS Try.underlying80 rfl rfl rfl) rfl rfl rfl ?_
      | refine Jl.box (zs := [.slice A0 l.length c0]) rfl rfl rfl rfl rfl (by rfl) (fun gj => ?_)
      | refine Jl.box (zs := [.slice A1 m.length c1]) rfl rfl rfl rfl rfl (by rfl) (fun gm => ?_)
      | refine Jl.yd (Y.load1 rfl rfl sc25 (by repeat (first | exact .head _ | refine .tail _ ?_)) (by rfl)) rfl rfl rfl ?_
      | refine Jl.yd (Y.load1 rfl rfl sc29 (by repeat (first | exact .head _ | refine .tail _ ?_)) (by rfl)) rfl rfl rfl ?_
      | refine Jl.call1 (v := .bool true) rfl rfl rfl rfl en17 rfl (fun w hW => by with_reducible exact impl_AreJobs.calls kj A0 c0 l true w (hW.fact (p := (fun W => Kd.C k51 W A0 l.length l)) (by repeat (first | exact memH | refine memT ?_))) hc0 hj) ?_
      | refine Jl.call1 (v := .bool false) rfl rfl rfl rfl en56 rfl (fun w hW => by with_reducible exact impl_areJobLooms.calls A1 c1 m false w (hW.fact (p := (fun W => Kd.C (Kd.int .i64) W A1 m.length m)) (by repeat (first | exact memH | refine memT ?_))) hc1 hl) ?_
      | refine Jl.splitG rfl rfl (fun h => ?_) (fun h => ?_))
    | (apply gateE; first
      | refine Jl.nil (Ej.go ?_ (fun _ _ h => h))
      | (refine Jl.nil (Ej.back (fun _ _ h => h) (by repeat (first | exact .refl | apply DropTo.tail)) ?_); repeat (first | exact trivial | refine ⟨rfl, ?_⟩)))
    | (apply gateC; first
      | refine Cj.block rfl ?_
      | refine Cj.ret rfl (Ej.out2 (P := Try.prog) (fn := Try.f44) (R := Rr) (fun _ _ h => h) rfl rfl rfl (fun w' hW => ?_))
      | refine Cj.condF rfl rfl (Cj.skip rfl (Ej.go ?_ (fun _ _ h => h)))
      | (refine Cj.condF rfl rfl (Cj.skip rfl (Ej.back (fun _ _ h => h) (by repeat (first | exact .refl | apply DropTo.tail)) ?_)); repeat (first | exact trivial | refine ⟨rfl, ?_⟩))
      | refine Cj.condF rfl rfl ?_
      | refine Cj.condT rfl rfl ?_
      | refine Cj.exit rfl (Ej.go ?_ (fun _ _ h => h))
      | refine Cj.cond rfl rfl (fun h => ?_) (fun h => ?_)
      | refine Cj.skip rfl (Ej.go ?_ (fun _ _ h => h))
      | (refine Cj.skip rfl (Ej.back (fun _ _ h => h) (by repeat (first | exact .refl | apply DropTo.tail)) ?_); repeat (first | exact trivial | refine ⟨rfl, ?_⟩))
      | refine Cj.seq rfl ?_
      | refine Cj.region rfl ?_))
  exact ⟨_, rfl, Kd.R_nil _ _ _ _ _, hW.below⟩
end Ml
namespace Me
set_option maxHeartbeats 4000000 in
theorem calls (A0 : Option Addr) (c0 : Nat) (l : List S51) (A1 : Option Addr) (c1 : Nat) (m : List Int) (w : World) (hr0 : Kd.C k51 w A0 l.length l) (hc0 : l.length ≤ c0) (hr1 : Kd.C (Kd.int .i64) w A1 m.length m) (hc1 : m.length ≤ c1) (kj : Nat) (hj : impl_AreJobs.f kj l = some true) (hl : impl_areJobLooms.f m = some true) (hl6 : l.length ≤ 6) (hm3 : m.length ≤ 3) (hx0 : (plansTo l m l.length).length = 0) :
    Calls Try.prog 44 #[.slice A0 l.length c0, .slice A1 m.length c1] w fun e w' => ∃ v : Value, e = .returned (.tuple #[v, .bool false]) ∧ Kd.R (Kd.int .i64) 3 w' w.heap.size (fun _ => True) v [] ∧ Below w.heap.size w w' := by
  let Rr : Ending → World → Prop := fun e w' => ∃ v : Value, e = .returned (.tuple #[v, .bool false]) ∧ Kd.R (Kd.int .i64) 3 w' w.heap.size (fun _ => True) v [] ∧ Below w.heap.size w w'
  refine enterW (args := [.slice A0 l.length c0, .slice A1 m.length c1]) [(fun W => Kd.C k51 W A0 l.length l), (fun W => Kd.C (Kd.int .i64) W A1 m.length m)] (fun p hp W hb => by
    rcases List.mem_cons.1 hp with rfl | hp
    · exact Kd.C_below hr0 hb
    · rw [List.mem_singleton.1 hp]; exact Kd.C_below hr1 hb) Try.func44 rfl rfl ?_
  show Cj Try.prog _ _ _ (bodyPost Try.prog Try.f44 Rr) _ _ _
  repeat (first
    | (apply gateO; first
      | refine Jl.yd (Y.mv rfl rfl) rfl rfl rfl ?_
      | refine Jl.yd (Y.asg rfl rfl) rfl rfl rfl ?_
      | refine Jl.yd (Y.ext rfl rfl rfl) rfl rfl rfl ?_
      | refine Jl.yd (Y.pickT rfl rfl rfl) rfl rfl rfl ?_
      | refine Jl.yd (Y.pickF rfl rfl rfl) rfl rfl rfl ?_
      | refine Jl.off rfl rfl rfl ?_
      | refine Jl.yd (Y.cmpF rfl rfl rfl rfl (by omega)) rfl rfl rfl ?_
      | refine Jl.yd (Y.cmpT rfl rfl rfl rfl (by omega)) rfl rfl rfl ?_
      | refine Jl.yd (Y.neqB rfl rfl rfl Try.underlying4) rfl rfl rfl ?_
      | refine Jl.yd (Y.cmp rfl rfl rfl rfl) rfl rfl rfl ?_
      | refine Jl.yd (Y.not rfl rfl) rfl rfl rfl ?_
      | refine Jl.yd (Y.arithN rfl rfl rfl rfl (by omega)) rfl rfl rfl ?_
      | refine Jl.yd (Y.arith64 rfl rfl rfl rfl) rfl rfl rfl ?_
      | refine Jl.yd (Y.load1 rfl rfl sc25 (by repeat (first | exact .head _ | refine .tail _ ?_)) (by rfl)) rfl rfl rfl ?_
      | refine Jl.yd (Y.load1 rfl rfl sc29 (by repeat (first | exact .head _ | refine .tail _ ?_)) (by rfl)) rfl rfl rfl ?_
      | refine Jl.yd (Y.lenS Try.underlying25 rfl rfl rfl) rfl rfl rfl ?_
      | refine Jl.yd (Y.lenS Try.underlying29 rfl rfl rfl) rfl rfl rfl ?_
      | refine Jl.yd (Y.lenS Try.underlying80 rfl rfl rfl) rfl rfl rfl ?_
      | refine Jl.box (zs := [.slice A0 l.length c0]) rfl rfl rfl rfl rfl (by rfl) (fun gj => ?_)
      | refine Jl.box (zs := [.slice A1 m.length c1]) rfl rfl rfl rfl rfl (by rfl) (fun gm => ?_)
      | refine Jl.yd (Y.load1 rfl rfl sc25 (by repeat (first | exact .head _ | refine .tail _ ?_)) (by rfl)) rfl rfl rfl ?_
      | refine Jl.yd (Y.load1 rfl rfl sc29 (by repeat (first | exact .head _ | refine .tail _ ?_)) (by rfl)) rfl rfl rfl ?_
      | refine Jl.call1 (v := .bool true) rfl rfl rfl rfl en17 rfl (fun w hW => by with_reducible exact impl_AreJobs.calls kj A0 c0 l true w (hW.fact (p := (fun W => Kd.C k51 W A0 l.length l)) (by repeat (first | exact memH | refine memT ?_))) hc0 hj) ?_
      | refine Jl.call1 (v := .bool true) rfl rfl rfl rfl en56 rfl (fun w hW => by with_reducible exact impl_areJobLooms.calls A1 c1 m true w (hW.fact (p := (fun W => Kd.C (Kd.int .i64) W A1 m.length m)) (by repeat (first | exact memH | refine memT ?_))) hc1 hl) ?_
      | refine Jl.callGV (xs := plansTo l m l.length) (eS := 29) (eI := 3) (fun v => v) rfl rfl rfl rfl en74 rfl (fun w1 hW => by with_reducible exact Pl.calls A0 c0 l A1 c1 m w1 (hW.fact (p := (fun W => Kd.C k51 W A0 l.length l)) (by repeat (first | exact memH | refine memT ?_))) hc0 (hW.fact (p := (fun W => Kd.C (Kd.int .i64) W A1 m.length m)) (by repeat (first | exact memH | refine memT ?_))) hc1 hl6 hm3) (fun A c vs hvl hvc => ?_)
      | refine Jl.yd (Y.cmpT rfl rfl rfl rfl (by omega)) rfl rfl rfl ?_
      | refine Jl.splitG rfl rfl (fun h => ?_) (fun h => ?_))
    | (apply gateE; first
      | refine Jl.nil (Ej.go ?_ (fun _ _ h => h))
      | (refine Jl.nil (Ej.back (fun _ _ h => h) (by repeat (first | exact .refl | apply DropTo.tail)) ?_); repeat (first | exact trivial | refine ⟨rfl, ?_⟩)))
    | (apply gateC; first
      | refine Cj.block rfl ?_
      | refine Cj.ret rfl (Ej.out2 (P := Try.prog) (fn := Try.f44) (R := Rr) (fun _ _ h => h) rfl rfl rfl (fun w' hW => ?_))
      | refine Cj.condF rfl rfl (Cj.skip rfl (Ej.go ?_ (fun _ _ h => h)))
      | (refine Cj.condF rfl rfl (Cj.skip rfl (Ej.back (fun _ _ h => h) (by repeat (first | exact .refl | apply DropTo.tail)) ?_)); repeat (first | exact trivial | refine ⟨rfl, ?_⟩))
      | refine Cj.condF rfl rfl ?_
      | refine Cj.condT rfl rfl ?_
      | refine Cj.exit rfl (Ej.go ?_ (fun _ _ h => h))
      | refine Cj.cond rfl rfl (fun h => ?_) (fun h => ?_)
      | refine Cj.skip rfl (Ej.go ?_ (fun _ _ h => h))
      | (refine Cj.skip rfl (Ej.back (fun _ _ h => h) (by repeat (first | exact .refl | apply DropTo.tail)) ?_); repeat (first | exact trivial | refine ⟨rfl, ?_⟩))
      | refine Cj.seq rfl ?_
      | refine Cj.region rfl ?_))
  exact ⟨_, rfl, Kd.R_nil _ _ _ _ _, hW.below⟩
end Me
namespace My
set_option maxHeartbeats 4000000 in
theorem calls (A0 : Option Addr) (c0 : Nat) (l : List S51) (A1 : Option Addr) (c1 : Nat) (m : List Int) (w : World) (hr0 : Kd.C k51 w A0 l.length l) (hc0 : l.length ≤ c0) (hr1 : Kd.C (Kd.int .i64) w A1 m.length m) (hc1 : m.length ≤ c1) (kj : Nat) (hj : impl_AreJobs.f kj l = some true) (hl : impl_areJobLooms.f m = some true) (hl6 : l.length ≤ 6) (hm3 : m.length ≤ 3) (hx0 : 0 < (plansTo l m l.length).length) (hx1 : (plansTo l m l.length).length ≤ 1048576) (hev : ∀ p, p ∈ plansTo l m l.length → EvP l m p) :
    Calls Try.prog 44 #[.slice A0 l.length c0, .slice A1 m.length c1] w fun e w' => ∃ v : Value, e = .returned (.tuple #[v, .bool true]) ∧ Kd.R (Kd.int .i64) 3 w' w.heap.size (fun _ => True) v (bestP l m).1 ∧ Below w.heap.size w w' := by
  let Rr : Ending → World → Prop := fun e w' => ∃ v : Value, e = .returned (.tuple #[v, .bool true]) ∧ Kd.R (Kd.int .i64) 3 w' w.heap.size (fun _ => True) v (bestP l m).1 ∧ Below w.heap.size w w'
  refine enterW (args := [.slice A0 l.length c0, .slice A1 m.length c1]) [(fun W => Kd.C k51 W A0 l.length l), (fun W => Kd.C (Kd.int .i64) W A1 m.length m)] (fun p hp W hb => by
    rcases List.mem_cons.1 hp with rfl | hp
    · exact Kd.C_below hr0 hb
    · rw [List.mem_singleton.1 hp]; exact Kd.C_below hr1 hb) Try.func44 rfl rfl ?_
  show Cj Try.prog _ _ _ (bodyPost Try.prog Try.f44 Rr) _ _ _
  repeat (first
    | (apply gateO; first
      | refine Jl.yd (Y.mv rfl rfl) rfl rfl rfl ?_
      | refine Jl.yd (Y.asg rfl rfl) rfl rfl rfl ?_
      | refine Jl.yd (Y.ext rfl rfl rfl) rfl rfl rfl ?_
      | refine Jl.yd (Y.pickT rfl rfl rfl) rfl rfl rfl ?_
      | refine Jl.yd (Y.pickF rfl rfl rfl) rfl rfl rfl ?_
      | refine Jl.off rfl rfl rfl ?_
      | refine Jl.yd (Y.cmpF rfl rfl rfl rfl (by omega)) rfl rfl rfl ?_
      | refine Jl.yd (Y.cmpT rfl rfl rfl rfl (by omega)) rfl rfl rfl ?_
      | refine Jl.yd (Y.neqB rfl rfl rfl Try.underlying4) rfl rfl rfl ?_
      | refine Jl.yd (Y.cmp rfl rfl rfl rfl) rfl rfl rfl ?_
      | refine Jl.yd (Y.not rfl rfl) rfl rfl rfl ?_
      | refine Jl.yd (Y.arithN rfl rfl rfl rfl (by omega)) rfl rfl rfl ?_
      | refine Jl.yd (Y.arith64 rfl rfl rfl rfl) rfl rfl rfl ?_
      | refine Jl.yd (Y.load1 rfl rfl sc25 (by repeat (first | exact .head _ | refine .tail _ ?_)) (by rfl)) rfl rfl rfl ?_
      | refine Jl.yd (Y.load1 rfl rfl sc29 (by repeat (first | exact .head _ | refine .tail _ ?_)) (by rfl)) rfl rfl rfl ?_
      | refine Jl.yd (Y.lenS Try.underlying25 rfl rfl rfl) rfl rfl rfl ?_
      | refine Jl.yd (Y.lenS Try.underlying29 rfl rfl rfl) rfl rfl rfl ?_
      | refine Jl.yd (Y.lenS Try.underlying80 rfl rfl rfl) rfl rfl rfl ?_
      | refine Jl.box (zs := [.slice A0 l.length c0]) rfl rfl rfl rfl rfl (by rfl) (fun gj => ?_)
      | refine Jl.box (zs := [.slice A1 m.length c1]) rfl rfl rfl rfl rfl (by rfl) (fun gm => ?_)
      | refine Jl.yd (Y.load1 rfl rfl sc25 (by repeat (first | exact .head _ | refine .tail _ ?_)) (by rfl)) rfl rfl rfl ?_
      | refine Jl.yd (Y.load1 rfl rfl sc29 (by repeat (first | exact .head _ | refine .tail _ ?_)) (by rfl)) rfl rfl rfl ?_
      | refine Jl.call1 (v := .bool true) rfl rfl rfl rfl en17 rfl (fun w hW => by with_reducible exact impl_AreJobs.calls kj A0 c0 l true w (hW.fact (p := (fun W => Kd.C k51 W A0 l.length l)) (by repeat (first | exact memH | refine memT ?_))) hc0 hj) ?_
      | refine Jl.call1 (v := .bool true) rfl rfl rfl rfl en56 rfl (fun w hW => by with_reducible exact impl_areJobLooms.calls A1 c1 m true w (hW.fact (p := (fun W => Kd.C (Kd.int .i64) W A1 m.length m)) (by repeat (first | exact memH | refine memT ?_))) hc1 hl) ?_
      | refine Jl.callGV (xs := plansTo l m l.length) (eS := 29) (eI := 3) (fun v => v) rfl rfl rfl rfl en74 rfl (fun w1 hW => by with_reducible exact Pl.calls A0 c0 l A1 c1 m w1 (hW.fact (p := (fun W => Kd.C k51 W A0 l.length l)) (by repeat (first | exact memH | refine memT ?_))) hc0 (hW.fact (p := (fun W => Kd.C (Kd.int .i64) W A1 m.length m)) (by repeat (first | exact memH | refine memT ?_))) hc1 hl6 hm3) (fun A c vs hvl hvc => ?_)
      | refine Jl.yd (Y.cmpF rfl rfl rfl rfl (by omega)) rfl rfl rfl ?_
      | refine Jl.splitG rfl rfl (fun h => ?_) (fun h => ?_))
    | (apply gateE; first
      | refine Jl.nil (Ej.go ?_ (fun _ _ h => h))
      | (refine Jl.nil (Ej.back (fun _ _ h => h) (by repeat (first | exact .refl | apply DropTo.tail)) ?_); repeat (first | exact trivial | refine ⟨rfl, ?_⟩)))
    | (apply gateC; first
      | refine Cj.block rfl ?_
      | refine Cj.condF rfl rfl (Cj.skip rfl (Ej.go ?_ (fun _ _ h => h)))
      | (refine Cj.condF rfl rfl (Cj.skip rfl (Ej.back (fun _ _ h => h) (by repeat (first | exact .refl | apply DropTo.tail)) ?_)); repeat (first | exact trivial | refine ⟨rfl, ?_⟩))
      | refine Cj.condF rfl rfl ?_
      | refine Cj.condT rfl rfl ?_
      | refine Cj.exit rfl (Ej.go ?_ (fun _ _ h => h))
      | refine Cj.cond rfl rfl (fun h => ?_) (fun h => ?_)
      | refine Cj.skip rfl (Ej.go ?_ (fun _ _ h => h))
      | (refine Cj.skip rfl (Ej.back (fun _ _ h => h) (by repeat (first | exact .refl | apply DropTo.tail)) ?_); repeat (first | exact trivial | refine ⟨rfl, ?_⟩))
      | refine Cj.seq rfl ?_
      | refine Cj.region rfl ?_))
  have hne : plansTo l m l.length ≠ [] := fun h => by rw [h] at hx0; simp at hx0
  refine Jl.ws (ι := Addr) (fun ad => A = some ad) (fun _ => [.box gm 29 [.slice A1 m.length c1], .box gj 25 [.slice A0 l.length c0]]) (fun ad => [GV 29 3 w.heap.size (.slice A vs.length c) vs (plansTo l m l.length), (fun W => Kd.C k51 W A0 l.length l), (fun W => Kd.C (Kd.int .i64) W A1 m.length m)]) (fun w' hW => by
    have hG : GV 29 3 w.heap.size (.slice A vs.length c) vs (plansTo l m l.length) w' := hW.fact (by repeat (first | exact memH | refine memT ?_))
    obtain ⟨ad, e, _⟩ := hG.reads.2.2.2.2 (by simpa using by omega)
    exact ⟨ad, e, hW⟩) (fun ad hA => ?_)
  subst hA
  repeat (first
    | (apply gateO; first
      | refine Jl.yd (Y.mv rfl rfl) rfl rfl rfl ?_
      | refine Jl.yd (Y.asg rfl rfl) rfl rfl rfl ?_
      | refine Jl.yd (Y.ext rfl rfl rfl) rfl rfl rfl ?_
      | refine Jl.yd (Y.pickT rfl rfl rfl) rfl rfl rfl ?_
      | refine Jl.yd (Y.pickF rfl rfl rfl) rfl rfl rfl ?_
      | refine Jl.off rfl rfl rfl ?_
      | refine Jl.yd (Y.cmpF rfl rfl rfl rfl (by omega)) rfl rfl rfl ?_
      | refine Jl.yd (Y.cmpT rfl rfl rfl rfl (by omega)) rfl rfl rfl ?_
      | refine Jl.yd (Y.neqB rfl rfl rfl Try.underlying4) rfl rfl rfl ?_
      | refine Jl.yd (Y.cmp rfl rfl rfl rfl) rfl rfl rfl ?_
      | refine Jl.yd (Y.not rfl rfl) rfl rfl rfl ?_
      | refine Jl.yd (Y.arithN rfl rfl rfl rfl (by omega)) rfl rfl rfl ?_
      | refine Jl.yd (Y.arith64 rfl rfl rfl rfl) rfl rfl rfl ?_
      | refine Jl.yd (Y.load1 rfl rfl sc25 (by repeat (first | exact .head _ | refine .tail _ ?_)) (by rfl)) rfl rfl rfl ?_
      | refine Jl.yd (Y.load1 rfl rfl sc29 (by repeat (first | exact .head _ | refine .tail _ ?_)) (by rfl)) rfl rfl rfl ?_
      | refine Jl.yd (Y.lenS Try.underlying25 rfl rfl rfl) rfl rfl rfl ?_
      | refine Jl.yd (Y.lenS Try.underlying29 rfl rfl rfl) rfl rfl rfl ?_
      | refine Jl.yd (Y.lenS Try.underlying80 rfl rfl rfl) rfl rfl rfl ?_
      | refine Jl.yd (mkFn2 rfl rfl rfl) rfl rfl rfl ?_
      | refine Jl.call1 (v := nth vs (bxP l m (plansTo l m l.length) ((plansTo l m l.length).length - 1)) undef) rfl rfl rfl rfl en75 rfl (fun w1 hW => by with_reducible exact Mn.calls A0 c0 l A1 c1 m gj gm ad c vs (plansTo l m l.length) w.heap.size w1 (hW.fact (p := (fun W => Kd.C k51 W A0 l.length l)) (by repeat (first | exact memH | refine memT ?_))) hc0 (hW.fact (p := (fun W => Kd.C (Kd.int .i64) W A1 m.length m)) (by repeat (first | exact memH | refine memT ?_))) hc1 (cells1 (Box_at (cs := [.slice A0 l.length c0]) hW (by repeat (first | exact memH | refine memT ?_)))) (cells1 (Box_at (cs := [.slice A1 m.length c1]) hW (by repeat (first | exact memH | refine memT ?_)))) (hW.fact (p := GV 29 3 w.heap.size (.slice (some ad) vs.length c) vs (plansTo l m l.length)) (by repeat (first | exact memH | refine memT ?_))) hx0 hx1 hev) ?_
      | refine Jl.splitG rfl rfl (fun h => ?_) (fun h => ?_))
    | (apply gateE; first
      | refine Jl.nil (Ej.go ?_ (fun _ _ h => h))
      | (refine Jl.nil (Ej.back (fun _ _ h => h) (by repeat (first | exact .refl | apply DropTo.tail)) ?_); repeat (first | exact trivial | refine ⟨rfl, ?_⟩)))
    | (apply gateC; first
      | refine Cj.block rfl ?_
      | refine Cj.ret rfl (Ej.out2 (P := Try.prog) (fn := Try.f44) (R := Rr) (fun _ _ h => h) rfl rfl rfl (fun w' hW => ?_))
      | refine Cj.condF rfl rfl (Cj.skip rfl (Ej.go ?_ (fun _ _ h => h)))
      | (refine Cj.condF rfl rfl (Cj.skip rfl (Ej.back (fun _ _ h => h) (by repeat (first | exact .refl | apply DropTo.tail)) ?_)); repeat (first | exact trivial | refine ⟨rfl, ?_⟩))
      | refine Cj.condF rfl rfl ?_
      | refine Cj.condT rfl rfl ?_
      | refine Cj.exit rfl (Ej.go ?_ (fun _ _ h => h))
      | refine Cj.cond rfl rfl (fun h => ?_) (fun h => ?_)
      | refine Cj.skip rfl (Ej.go ?_ (fun _ _ h => h))
      | (refine Cj.skip rfl (Ej.back (fun _ _ h => h) (by repeat (first | exact .refl | apply DropTo.tail)) ?_); repeat (first | exact trivial | refine ⟨rfl, ?_⟩))
      | refine Cj.seq rfl ?_
      | refine Cj.region rfl ?_))
  have hG : GV 29 3 w.heap.size (.slice (some ad) vs.length c) vs (plansTo l m l.length) w' := hW.fact (by repeat (first | exact memH | refine memT ?_))
  have hbl := bxP_le l m (plansTo l m l.length) ((plansTo l m l.length).length - 1)
  obtain ⟨u, hu⟩ : ∃ u, vs[bxP l m (plansTo l m l.length) ((plansTo l m l.length).length - 1)]? = some u := ⟨_, List.getElem?_eq_getElem (by omega)⟩
  obtain ⟨q, hq⟩ : ∃ q, (plansTo l m l.length)[bxP l m (plansTo l m l.length) ((plansTo l m l.length).length - 1)]? = some q := ⟨_, List.getElem?_eq_getElem (by omega)⟩
  have hun : nth vs (bxP l m (plansTo l m l.length) ((plansTo l m l.length).length - 1)) undef = u := by unfold nth; rw [List.getD_eq_getElem?_getD, hu]; rfl
  have hqn : (bestP l m).1 = q := by rw [← bxP_best l m hne]; unfold nth; rw [List.getD_eq_getElem?_getD, hq]; rfl
  have hR := hG.els.el _ q u hq hu
  refine ⟨u, by rw [hun], ?_, hW.below⟩
  rw [hqn]
  exact Kd.R_mono (Kd.R_raise (b := 0) (fun _ _ _ _ h => h) hR hR.1) (fun _ _ => trivial)
end My
/-- impl.BestLoomPlan. -/
theorem full (A0 : Option Addr) (c0 : Nat) (l : List S51) (A1 : Option Addr) (c1 : Nat) (m : List Int) (w : World) (hr0 : Kd.C k51 w A0 l.length l) (hc0 : l.length ≤ c0) (hr1 : Kd.C (Kd.int .i64) w A1 m.length m) (hc1 : m.length ≤ c1) (h0 : l.length ≤ 1048576) (h1 : m.length ≤ 1048576) :
    Calls Try.prog 44 #[.slice A0 l.length c0, .slice A1 m.length c1] w fun e w' => ∃ v : Value, e = .returned (.tuple #[v, .bool (if (goodJ l && goodL m) = true then bestP l m else ([], false)).2]) ∧ Kd.R (Kd.int .i64) 3 w' w.heap.size (fun _ => True) v (if (goodJ l && goodL m) = true then bestP l m else ([], false)).1 ∧ Below w.heap.size w w' := by
  obtain ⟨kj, hkj⟩ := (iJobs l h0).rounds
  have hkl := iLooms m
  cases hJ : goodJ l with
  | false =>
    rw [hJ] at hkj
    exact Mj.calls A0 c0 l A1 c1 m w hr0 hc0 hr1 hc1 kj hkj
  | true =>
    rw [hJ] at hkj
    cases hL : goodL m with
    | false =>
      rw [hL] at hkl
      exact Ml.calls A0 c0 l A1 c1 m w hr0 hc0 hr1 hc1 kj hkj hkl
    | true =>
      rw [hL] at hkl
      have hl6 : l.length ≤ 6 := by unfold goodJ at hJ; rw [Bool.and_eq_true] at hJ; exact of_decide_eq_true hJ.1
      have hm3 : m.length ≤ 3 := by unfold goodL at hL; rw [Bool.and_eq_true] at hL; exact (of_decide_eq_true hL.2).2
      have hpl := plansTo_len l m hm3 l.length
      have h36 : 3 ^ l.length ≤ 3 ^ 6 := Nat.pow_le_pow_right (by omega) (by omega)
      have h729 : 3 ^ 6 = 729 := by decide
      simp only [Bool.and_self, if_true]
      rcases Nat.eq_zero_or_pos (plansTo l m l.length).length with hz | hz
      · have e : bestP l m = ([], false) := by unfold bestP; rw [List.length_eq_zero_iff.1 hz]; rfl
        rw [e]
        exact Me.calls A0 c0 l A1 c1 m w hr0 hc0 hr1 hc1 kj hkj hkl hl6 hm3 hz
      · have e : (bestP l m).2 = true := bestP_some.2 (fun h => by rw [h] at hz; simp at hz)
        rw [e]
        exact My.calls A0 c0 l A1 c1 m w hr0 hc0 hr1 hc1 kj hkj hkl hl6 hm3 hz (by omega) (fun p hp => evP (partial_asked hJ hL (plansTo_sound l m _ p hp)))
end BP
end Go.Proofs.Ytcgpibbbkdhpeaa.WK

namespace Go.Proofs.Ytcgpibbbkdhpeaa.Q
open Go.RowKit Go.Proofs.YtcgpibbbkdhpeaaW.PrintWords Go.Proofs.YtcgpibbbkdhpeaaW.PrintLast Go.Proofs.YtcgpibbbkdhpeaaW.PrintMore
set_option linter.unusedVariables false
set_option linter.unusedSimpArgs false

/-! ### impl_BestLoomPlan: function 44 -/
def impl_BestLoomPlan.f (l0 : List (S51)) (l1 : List Int) : Option (List Int × Bool) := if l0.length ≤ 1048576 ∧ l1.length ≤ 1048576 then some (if (Go.Proofs.Ytcgpibbbkdhpeaa.M.goodJ l0 && Go.Proofs.Ytcgpibbbkdhpeaa.M.goodL l1) = true then Go.Proofs.Ytcgpibbbkdhpeaa.M.bestP l0 l1 else ([], false)) else none
theorem impl_BestLoomPlan.calls (A0 : Option Addr) (c0 : Nat) (l0 : List (S51)) (A1 : Option Addr) (c1 : Nat) (l1 : List Int) (r1 : List Int) (r2 : Bool) (w : World) (hr0 : Kd.C k51 w A0 l0.length l0) (hc0 : l0.length ≤ c0) (hr1 : Kd.C (Kd.int .i64) w A1 l1.length l1) (hc1 : l1.length ≤ c1) (h : impl_BestLoomPlan.f l0 l1 = some (r1, r2)) :
  Calls Try.prog 44 #[.slice A0 l0.length c0, .slice A1 l1.length c1] w fun e w' => ∃ v0_ : Value, e = .returned (.tuple #[v0_, .bool r2]) ∧ Kd.R (Kd.int .i64) 3 w' w.heap.size (fun _ => True) v0_ r1 ∧ Below w.heap.size w w' := by
 unfold impl_BestLoomPlan.f at h
 split at h
 ·rename_i hh
  have h1 := Go.Proofs.Ytcgpibbbkdhpeaa.WK.BP.full A0 c0 l0 A1 c1 l1 w hr0 hc0 hr1 hc1 hh.1 hh.2
  rw [Option.some.inj h] at h1
  exact h1
 ·cases h


end Go.Proofs.Ytcgpibbbkdhpeaa.Q

namespace Go.Proofs.Ytcgpibbbkdhpeaa.Q
open Go.RowKit Go.Proofs.YtcgpibbbkdhpeaaW.PrintWords Go.Proofs.YtcgpibbbkdhpeaaW.PrintLast Go.Proofs.YtcgpibbbkdhpeaaW.PrintMore
set_option linter.unusedVariables false
set_option linter.unusedSimpArgs false

/-! ### spec_DrawIsLoomPlan: function 45 -/
def spec_DrawIsLoomPlan.f (k : Nat) (l0 : List Int) : Option ((List (S51)) × List Int × List Int) := (spec_l1Cur_jobs.f k l0 0 0).bind fun bt538 => ((spec_l1Cur_loomList.f k l0 bt538.2.1 bt538.2.2).bind fun bt543 => ((spec_l1Cur_loomPlan.f k l0 bt543.2.1 bt543.2.2 bt538.1 bt543.1).bind fun bt548 => (some (bt538.1, bt543.1, bt548.1))))
set_option maxHeartbeats 8000000 in
set_option maxRecDepth 100000 in
theorem spec_DrawIsLoomPlan.calls (k : Nat) (A0 : Option Addr) (c0 : Nat) (l0 : List Int) (r1 : List (S51)) (r2 : List Int) (r3 : List Int) (w : World) (hr0 : Kd.C (Kd.int .u8) w A0 l0.length l0) (hc0 : l0.length ≤ c0) (h : spec_DrawIsLoomPlan.f k l0 = some (r1, r2, r3)) :
  Calls Try.prog 45 #[.slice A0 l0.length c0] w fun e w' => ∃ v0_ v1_ v2_ : Value, e = .returned (.tuple #[v0_, v1_, v2_]) ∧ Kd.R k51 51 w' w.heap.size (fun _ => True) v0_ r1 ∧ Kd.R (Kd.int .i64) 3 w' w.heap.size (fun k_ => some k_ ≠ (v2_ : Value).ownBlock) v1_ r2 ∧ Kd.R (Kd.int .i64) 3 w' w.heap.size (fun k_ => some k_ ≠ (v1_ : Value).ownBlock) v2_ r3 ∧ Below w.heap.size w w' := by
 have hu75 := Try.underlying75
 have HR0 := Aside0.mk hr0
 have HC0 := Aside0.mk hc0
 clear hr0 hc0
 have HB := Aside0.mk (Below.refl w.heap.size w)
 have H : ((spec_l1Cur_jobs.f k l0 0 0).bind fun bt538 => ((spec_l1Cur_loomList.f k l0 bt538.2.1 bt538.2.2).bind fun bt543 => ((spec_l1Cur_loomPlan.f k l0 bt543.2.1 bt543.2.2 bt538.1 bt543.1).bind fun bt548 => (some (bt538.1, bt543.1, bt548.1))))) = some (r1, r2, r3) := h
 clear h
 replace H := Option.bind_eq_some_iff.mp H
 obtain ⟨⟨t538, t541, t542⟩, A20, H⟩ := H
 have A2 := Aside0.mk A20
 clear A20
 replace H := Option.bind_eq_some_iff.mp H
 obtain ⟨⟨t543, t546, t547⟩, A30, H⟩ := H
 have A3 := Aside0.mk A30
 clear A30
 replace H := Option.bind_eq_some_iff.mp H
 obtain ⟨⟨t548, t551, t552⟩, A40, H⟩ := H
 have A4 := Aside0.mk A40
 clear A40
 simp only [Option.some.injEq, Prod.mk.injEq] at H
 obtain ⟨rfl, rfl, rfl⟩ := H
 go_enter Try.func45, Try.ntmps45
 go_wp2_with (first | ((with_reducible refine gate_dst (N := 10) rfl ?_); refine box_event ?hg (N := 10) ?hd (cs := #[.slice A0 l0.length c0, .int .i64 0, .int .u64 0]) (t := 75) ?hr ?_; (case hd => rfl); (case hg => rfl); (case hr => first | (go_simp; done) | (go_simp; rfl)); intro gb537 hg w5 hbox hb; have n0_ := Aside0.mk (below_step (by repeat (first | (with_reducible first | exact HB.out | apply below_alloc | apply pw_below_drewN | apply below_drew1) | exact HB.out)) hb); have n1_ := Aside0.mk (hbox); have n2_ := Aside0.mk ((by rw [hg]; exact (below_size (by repeat (first | (with_reducible first | exact HB.out | apply below_alloc | apply pw_below_drewN | apply below_drew1) | exact HB.out))) : w.heap.size ≤ gb537)); have n3_ := Aside0.mk ((by rw [hg]; exact (below_size (by repeat (first | (with_reducible first | exact HB.out | apply below_alloc | apply pw_below_drewN | apply below_drew1) | exact HB.out))) : w.heap.size ≤ gb537)); clear HB; have HB := n0_; have BK537 := n1_; have GW537 := n2_; have GE537 := n3_; clear n0_ n1_ n2_ n3_; clear hb hbox hg) | ((with_reducible refine gate_callee (f := 68) rfl ?_); refine goesL_ (some 12) rfl rfl Try.func68 (by kernel_rfl) rfl #[.pointer (some ⟨gb537, 0, none⟩)] rfl (by (try simp only [List.map_toArray, List.map_cons, List.map_nil]); first | done | rfl | (simp only [List.length_drop, List.length_take]; rfl)) ?_; (with_reducible refine (spec_l1Cur_jobs.calls k gb537 l0 0 0 t538 t541 t542 w _ ?side1 ?side2 A2.out).mono ?_); (case side1 => exact ⟨_, _, (by (with_reducible repeat (first | refine blk_drewN ?_ _ | refine blk_drew ?_ | refine blk_alloc ?_ _)); exact BK537.out), GE537.out, HR0.out⟩); (case side2 => repeat (first | (with_reducible first | exact HB.out | apply below_alloc | apply pw_below_drewN | apply below_drew1 | refine below_set ?_ (IsS75.ge HI537.out)) | exact HB.out)); rintro e w6 ⟨v539, rfl, ho0, hi, hb, hk⟩; refine ⟨_, rfl, ?_⟩; have n0_ := Aside0.mk (Kd.R_lower ho0 (below_size (by repeat (first | (with_reducible first | exact HB.out | apply below_alloc | apply pw_below_drewN | apply below_drew1 | refine below_set ?_ (IsS75.ge HI537.out)) | exact HB.out)))); have n1_ := Aside0.mk (hb); have n2_ := Aside0.mk (hi); clear HB; clear BK537; have HO540 := n0_; have HB := n1_; have HI537 := n2_; clear n0_ n1_ n2_; (try clear hb); (try clear hb2); (try clear hk); (try clear hi); (try clear ho0)) | ((with_reducible refine gate_callee (f := 69) rfl ?_); refine goesL_ (some 14) rfl rfl Try.func69 (by kernel_rfl) rfl #[.pointer (some ⟨gb537, 0, none⟩)] rfl (by (try simp only [List.map_toArray, List.map_cons, List.map_nil]); first | done | rfl | (simp only [List.length_drop, List.length_take]; rfl)) ?_; (with_reducible refine (spec_l1Cur_loomList.calls k gb537 l0 t541 t542 t543 t546 t547 w _ ?side1 ?side2 A3.out).mono ?_); (case side1 => repeat (first | (with_reducible first | exact HI537.out | apply IsS75.alloc | apply IsS75.drewN | apply IsS75.drew | apply IsS75.set_1 | apply IsS75.set_2) | exact HI537.out)); (case side2 => repeat (first | (with_reducible first | exact HB.out | apply below_alloc | apply pw_below_drewN | apply below_drew1 | refine below_set ?_ (IsS75.ge HI537.out)) | exact HB.out)); rintro e w7 ⟨v544, rfl, ho0, hi, hb, hk⟩; refine ⟨_, rfl, ?_⟩; have n0_ := Aside0.mk (Kd.R_mono (Kd.R_keep (IsS75.apart (show IsS75 w _ gb537 l0 t541 t542 from by repeat (first | (with_reducible first | exact HI537.out | apply IsS75.alloc | apply IsS75.drewN | apply IsS75.drew | apply IsS75.set_1 | apply IsS75.set_2) | exact HI537.out)) (by (with_reducible repeat (first | apply Kd.R_alloc | apply Kd.R_drewN | apply Kd.R_drew)); exact HO540.out) (by decide)) hk (fun _ h => h.2)) (fun _ h => h.1)); have n1_ := Aside0.mk (Kd.R_lower ho0 (below_size (by repeat (first | (with_reducible first | exact HB.out | apply below_alloc | apply pw_below_drewN | apply below_drew1 | refine below_set ?_ (IsS75.ge HI537.out)) | exact HB.out)))); have n2_ := Aside0.mk (hb); have n3_ := Aside0.mk (hi); clear HO540; clear HB; clear HI537; have HO540 := n0_; have HO545 := n1_; have HB := n2_; have HI537 := n3_; clear n0_ n1_ n2_ n3_; (try clear hb); (try clear hb2); (try clear hk); (try clear hi); (try clear ho0); obtain ⟨Ao8, co8, eo8⟩ := Kd.R_slice HO540.out; subst eo8; obtain ⟨Ao9, co9, eo9⟩ := Kd.R_slice HO545.out; subst eo9) | ((with_reducible refine gate_callee (f := 70) rfl ?_); refine goesL_ (some 20) rfl rfl Try.func70 (by kernel_rfl) rfl #[.pointer (some ⟨gb537, 0, none⟩), .slice Ao8 t538.length co8, .slice Ao9 t543.length co9] rfl (by (try simp only [List.map_toArray, List.map_cons, List.map_nil]); first | done | rfl | (simp only [List.length_drop, List.length_take]; rfl)) ?_; (with_reducible refine (spec_l1Cur_loomPlan.calls k gb537 l0 t546 t547 _ _ t538 _ _ t543 t548 t551 t552 w _ ?side1 ?side2 ?side3 ?side4 ?side5 ?side6 ?side7 A4.out).mono ?_); (case side1 => repeat (first | (with_reducible first | exact HI537.out | apply IsS75.alloc | apply IsS75.drewN | apply IsS75.drew | apply IsS75.set_1 | apply IsS75.set_2) | exact HI537.out)); (case side2 => repeat (first | (with_reducible first | exact HB.out | apply below_alloc | apply pw_below_drewN | apply below_drew1 | refine below_set ?_ (IsS75.ge HI537.out)) | exact HB.out)); (case side3 => exact Kd.C_foot_own (IsS75.apart (show IsS75 w _ gb537 l0 t546 t547 from by repeat (first | (with_reducible first | exact HI537.out | apply IsS75.alloc | apply IsS75.drewN | apply IsS75.drew | apply IsS75.set_1 | apply IsS75.set_2) | exact HI537.out)) (by (with_reducible repeat (first | apply Kd.R_alloc | apply Kd.R_drewN | apply Kd.R_drew)); exact HO540.out) (by decide)) (fun _ h_ => h_.2)); (case side4 => exact (Kd.R_reads' HO540.out).2.1); (case side5 => repeat (first | exact (Kd.R_reads' HO545.out).2.2 | (with_reducible refine Kd.C_alloc ?_ _) | (with_reducible refine Kd.C_drewN ?_ _) | (with_reducible refine Kd.C_drew ?_))); (case side6 => exact (Kd.R_reads' HO545.out).2.1); (case side7 => exact far_slice (IsS75.own_ne HI537.out HO545.out (by decide))); rintro e w10 ⟨v549, rfl, ho0, hi, hb, hk⟩; refine ⟨_, rfl, ?_⟩; have n0_ := Aside0.mk (Kd.R_mono (Kd.R_keep (IsS75.apart (show IsS75 w _ gb537 l0 t546 t547 from by repeat (first | (with_reducible first | exact HI537.out | apply IsS75.alloc | apply IsS75.drewN | apply IsS75.drew | apply IsS75.set_1 | apply IsS75.set_2) | exact HI537.out)) (by (with_reducible repeat (first | apply Kd.R_alloc | apply Kd.R_drewN | apply Kd.R_drew)); exact HO540.out) (by decide)) hk (fun _ h => h.2)) (fun _ h => h.1)); have n1_ := Aside0.mk (Kd.R_mono (Kd.R_told (Kd.R_oldK (IsS75.apart (show IsS75 w _ gb537 l0 t546 t547 from by repeat (first | (with_reducible first | exact HI537.out | apply IsS75.alloc | apply IsS75.drewN | apply IsS75.drew | apply IsS75.set_1 | apply IsS75.set_2) | exact HI537.out)) (by (with_reducible repeat (first | apply Kd.R_alloc | apply Kd.R_drewN | apply Kd.R_drew)); exact HO545.out) (by decide)) hk) (Kd.R_base ho0)) (fun _ h_ => h_.1)); have n2_ := Aside0.mk (Kd.R_lower (Kd.R_new' ho0 (Kd.R_lt (by (with_reducible repeat (first | apply Kd.R_alloc | apply Kd.R_drewN | apply Kd.R_drew)); exact HO545.out))) (below_size (by repeat (first | (with_reducible first | exact HB.out | apply below_alloc | apply pw_below_drewN | apply below_drew1 | refine below_set ?_ (IsS75.ge HI537.out)) | exact HB.out)))); have n3_ := Aside0.mk (hb); have n4_ := Aside0.mk (hi); clear HO540; clear HO545; clear HB; clear HI537; have HO540 := n0_; have HO545 := n1_; have HO550 := n2_; have HB := n3_; have HI537 := n4_; clear n0_ n1_ n2_ n3_ n4_; (try clear hb); (try clear hb2); (try clear hk); (try clear hi); (try clear ho0)))
 go_ret3
 exact ⟨_, _, _, by first | rfl | (simp [errW_none, errW_some] <;> rfl) | (simp [*, errW_none, errW_some] <;> rfl) | (simp [wrap64]; done), by (with_reducible repeat (first | apply Kd.R_alloc | apply Kd.R_drewN | apply Kd.R_drew)); exact HO540.out, by (with_reducible repeat (first | apply Kd.R_alloc | apply Kd.R_drewN | apply Kd.R_drew)); exact Kd.R_mono HO545.out (fun _ hk => hk.2), by (with_reducible repeat (first | apply Kd.R_alloc | apply Kd.R_drewN | apply Kd.R_drew)); exact Kd.R_mono HO550.out (fun _ hk => hk.2), by repeat (first | (with_reducible first | exact HB.out | apply below_alloc | apply pw_below_drewN | apply below_drew1 | refine below_set ?_ (IsS75.ge HI537.out)) | exact HB.out)⟩

end Go.Proofs.Ytcgpibbbkdhpeaa.Q

namespace Go.Proofs.Ytcgpibbbkdhpeaa.Q
open Go.RowKit Go.Proofs.YtcgpibbbkdhpeaaW.PrintWords Go.Proofs.YtcgpibbbkdhpeaaW.PrintLast Go.Proofs.YtcgpibbbkdhpeaaW.PrintMore
set_option linter.unusedVariables false
set_option linter.unusedSimpArgs false

/-! ### spec_DrawBestLoomPlan: function 46 -/
def spec_DrawBestLoomPlan.f (k : Nat) (l0 : List Int) : Option ((List (S51)) × List Int) := (spec_l1Cur_jobs.f k l0 0 0).bind fun bt554 => ((spec_l1Cur_loomList.f k l0 bt554.2.1 bt554.2.2).bind fun bt559 => (some (bt554.1, bt559.1)))
set_option maxHeartbeats 8000000 in
set_option maxRecDepth 100000 in
theorem spec_DrawBestLoomPlan.calls (k : Nat) (A0 : Option Addr) (c0 : Nat) (l0 : List Int) (r1 : List (S51)) (r2 : List Int) (w : World) (hr0 : Kd.C (Kd.int .u8) w A0 l0.length l0) (hc0 : l0.length ≤ c0) (h : spec_DrawBestLoomPlan.f k l0 = some (r1, r2)) :
  Calls Try.prog 46 #[.slice A0 l0.length c0] w fun e w' => ∃ v0_ v1_ : Value, e = .returned (.tuple #[v0_, v1_]) ∧ Kd.R k51 51 w' w.heap.size (fun _ => True) v0_ r1 ∧ Kd.R (Kd.int .i64) 3 w' w.heap.size (fun _ => True) v1_ r2 ∧ Below w.heap.size w w' := by
 have hu75 := Try.underlying75
 have HR0 := Aside0.mk hr0
 have HC0 := Aside0.mk hc0
 clear hr0 hc0
 have HB := Aside0.mk (Below.refl w.heap.size w)
 have H : ((spec_l1Cur_jobs.f k l0 0 0).bind fun bt554 => ((spec_l1Cur_loomList.f k l0 bt554.2.1 bt554.2.2).bind fun bt559 => (some (bt554.1, bt559.1)))) = some (r1, r2) := h
 clear h
 replace H := Option.bind_eq_some_iff.mp H
 obtain ⟨⟨t554, t557, t558⟩, A20, H⟩ := H
 have A2 := Aside0.mk A20
 clear A20
 replace H := Option.bind_eq_some_iff.mp H
 obtain ⟨⟨t559, t562, t563⟩, A30, H⟩ := H
 have A3 := Aside0.mk A30
 clear A30
 simp only [Option.some.injEq, Prod.mk.injEq] at H
 obtain ⟨rfl, rfl⟩ := H
 go_enter Try.func46, Try.ntmps46
 go_wp2_with (first | ((with_reducible refine gate_dst (N := 7) rfl ?_); refine box_event ?hg (N := 7) ?hd (cs := #[.slice A0 l0.length c0, .int .i64 0, .int .u64 0]) (t := 75) ?hr ?_; (case hd => rfl); (case hg => rfl); (case hr => first | (go_simp; done) | (go_simp; rfl)); intro gb553 hg w4 hbox hb; have n0_ := Aside0.mk (below_step (by repeat (first | (with_reducible first | exact HB.out | apply below_alloc | apply pw_below_drewN | apply below_drew1) | exact HB.out)) hb); have n1_ := Aside0.mk (hbox); have n2_ := Aside0.mk ((by rw [hg]; exact (below_size (by repeat (first | (with_reducible first | exact HB.out | apply below_alloc | apply pw_below_drewN | apply below_drew1) | exact HB.out))) : w.heap.size ≤ gb553)); have n3_ := Aside0.mk ((by rw [hg]; exact (below_size (by repeat (first | (with_reducible first | exact HB.out | apply below_alloc | apply pw_below_drewN | apply below_drew1) | exact HB.out))) : w.heap.size ≤ gb553)); clear HB; have HB := n0_; have BK553 := n1_; have GW553 := n2_; have GE553 := n3_; clear n0_ n1_ n2_ n3_; clear hb hbox hg) | ((with_reducible refine gate_callee (f := 68) rfl ?_); refine goesL_ (some 9) rfl rfl Try.func68 (by kernel_rfl) rfl #[.pointer (some ⟨gb553, 0, none⟩)] rfl (by (try simp only [List.map_toArray, List.map_cons, List.map_nil]); first | done | rfl | (simp only [List.length_drop, List.length_take]; rfl)) ?_; (with_reducible refine (spec_l1Cur_jobs.calls k gb553 l0 0 0 t554 t557 t558 w _ ?side1 ?side2 A2.out).mono ?_); (case side1 => exact ⟨_, _, (by (with_reducible repeat (first | refine blk_drewN ?_ _ | refine blk_drew ?_ | refine blk_alloc ?_ _)); exact BK553.out), GE553.out, HR0.out⟩); (case side2 => repeat (first | (with_reducible first | exact HB.out | apply below_alloc | apply pw_below_drewN | apply below_drew1 | refine below_set ?_ (IsS75.ge HI553.out)) | exact HB.out)); rintro e w5 ⟨v555, rfl, ho0, hi, hb, hk⟩; refine ⟨_, rfl, ?_⟩; have n0_ := Aside0.mk (Kd.R_lower ho0 (below_size (by repeat (first | (with_reducible first | exact HB.out | apply below_alloc | apply pw_below_drewN | apply below_drew1 | refine below_set ?_ (IsS75.ge HI553.out)) | exact HB.out)))); have n1_ := Aside0.mk (hb); have n2_ := Aside0.mk (hi); clear HB; clear BK553; have HO556 := n0_; have HB := n1_; have HI553 := n2_; clear n0_ n1_ n2_; (try clear hb); (try clear hb2); (try clear hk); (try clear hi); (try clear ho0)) | ((with_reducible refine gate_callee (f := 69) rfl ?_); refine goesL_ (some 11) rfl rfl Try.func69 (by kernel_rfl) rfl #[.pointer (some ⟨gb553, 0, none⟩)] rfl (by (try simp only [List.map_toArray, List.map_cons, List.map_nil]); first | done | rfl | (simp only [List.length_drop, List.length_take]; rfl)) ?_; (with_reducible refine (spec_l1Cur_loomList.calls k gb553 l0 t557 t558 t559 t562 t563 w _ ?side1 ?side2 A3.out).mono ?_); (case side1 => repeat (first | (with_reducible first | exact HI553.out | apply IsS75.alloc | apply IsS75.drewN | apply IsS75.drew | apply IsS75.set_1 | apply IsS75.set_2) | exact HI553.out)); (case side2 => repeat (first | (with_reducible first | exact HB.out | apply below_alloc | apply pw_below_drewN | apply below_drew1 | refine below_set ?_ (IsS75.ge HI553.out)) | exact HB.out)); rintro e w6 ⟨v560, rfl, ho0, hi, hb, hk⟩; refine ⟨_, rfl, ?_⟩; have n0_ := Aside0.mk (Kd.R_mono (Kd.R_keep (IsS75.apart (show IsS75 w _ gb553 l0 t557 t558 from by repeat (first | (with_reducible first | exact HI553.out | apply IsS75.alloc | apply IsS75.drewN | apply IsS75.drew | apply IsS75.set_1 | apply IsS75.set_2) | exact HI553.out)) (by (with_reducible repeat (first | apply Kd.R_alloc | apply Kd.R_drewN | apply Kd.R_drew)); exact HO556.out) (by decide)) hk (fun _ h => h.2)) (fun _ h => h.1)); have n1_ := Aside0.mk (Kd.R_lower ho0 (below_size (by repeat (first | (with_reducible first | exact HB.out | apply below_alloc | apply pw_below_drewN | apply below_drew1 | refine below_set ?_ (IsS75.ge HI553.out)) | exact HB.out)))); have n2_ := Aside0.mk (hb); have n3_ := Aside0.mk (hi); clear HO556; clear HB; clear HI553; have HO556 := n0_; have HO561 := n1_; have HB := n2_; have HI553 := n3_; clear n0_ n1_ n2_ n3_; (try clear hb); (try clear hb2); (try clear hk); (try clear hi); (try clear ho0)))
 go_ret2
 exact ⟨_, _, by first | rfl | (simp [errW_none, errW_some] <;> rfl) | (simp [*, errW_none, errW_some] <;> rfl) | (simp [wrap64]; done), by (with_reducible repeat (first | apply Kd.R_alloc | apply Kd.R_drewN | apply Kd.R_drew)); exact HO556.out, by (with_reducible repeat (first | apply Kd.R_alloc | apply Kd.R_drewN | apply Kd.R_drew)); exact HO561.out, by repeat (first | (with_reducible first | exact HB.out | apply below_alloc | apply pw_below_drewN | apply below_drew1 | refine below_set ?_ (IsS75.ge HI553.out)) | exact HB.out)⟩

end Go.Proofs.Ytcgpibbbkdhpeaa.Q

namespace Go.Proofs.Ytcgpibbbkdhpeaa.M
open Go.RowKit Go.Proofs.Ytcgpibbbkdhpeaa.Q Go.Proofs.YtcgpibbbkdhpeaaW.PrintWords Go.Proofs.YtcgpibbbkdhpeaaW.PrintLast Go.Proofs.YtcgpibbbkdhpeaaW.Pl Classical
set_option linter.unusedSimpArgs false
set_option linter.unusedVariables false
theorem drawPlans {l : List Int} (hl : CodeL l) : ∃ (jobs : List S51) (looms plan : List Int), (jobs.length ≤ 20 ∧ looms.length ≤ 20 ∧ plan.length ≤ 30) ∧ Ev (fun k => spec_DrawIsLoomPlan.f k l) (jobs, looms, plan) ∧ Ev (fun k => spec_DrawBestLoomPlan.f k l) (jobs, looms) := by
  obtain ⟨jobs, a1, s1, e1, l1, b1, b1'⟩ := drawJobs hl
  obtain ⟨looms, a2, s2, e2, l2, b2, b2'⟩ := drawLooms hl a1 s1 200 (by omega) (by omega)
  obtain ⟨plan, a3, s3, e3, l3, b3, b3'⟩ := drawPlan hl jobs looms l1 l2 a2 s2 300 (by omega) (by omega)
  refine ⟨jobs, looms, plan, ⟨l1, l2, l3⟩, ?_, ?_⟩
  · unfold spec_DrawIsLoomPlan.f
    exact Ev.bind e1 (Ev.bind e2 (Ev.bind e3 (Ev.now _)))
  · unfold spec_DrawBestLoomPlan.f
    exact Ev.bind e1 (Ev.bind e2 (Ev.now _))
def lateRes (l : List S51) (m p : List Int) : Int × Bool := if asked l m p = true then (lateP l m p, true) else (0, false)
def lastRes (l : List S51) (m p : List Int) : Int × Bool := if asked l m p = true then (lastP l m p, true) else (0, false)
theorem lateD (l : List S51) (m p : List Int) (hl : l.length ≤ 1048576) (hm : m.length ≤ 1048576) : Ev (fun k => spec_LateDays.f k l m p) (lateRes l m p) ∧ Ev (fun k => impl_LateDays.f k l m p) (lateRes l m p) := by
  unfold spec_LateDays.f impl_LateDays.f lateRes
  refine ⟨Ev.bind (sAsked l m p hl hm) ?_, Ev.bind (iAsked l m p hl hm) ?_⟩
  · by_cases h : asked l m p = true
    · simp only [h, if_true]
      exact Ev.bind (sLate l m p h) (Ev.now _)
    · simp only [h, Bool.false_eq_true, if_false]
      exact Ev.now _
  · by_cases h : asked l m p = true
    · simp only [h, if_true]
      exact Ev.bind (iLate l m p h) (Ev.now _)
    · simp only [h, Bool.false_eq_true, if_false]
      exact Ev.now _
theorem lastD (l : List S51) (m p : List Int) (hl : l.length ≤ 1048576) (hm : m.length ≤ 1048576) : Ev (fun k => spec_LastEnd.f k l m p) (lastRes l m p) ∧ Ev (fun k => impl_LastEnd.f k l m p) (lastRes l m p) := by
  unfold spec_LastEnd.f impl_LastEnd.f lastRes
  refine ⟨Ev.bind (sAsked l m p hl hm) ?_, Ev.bind (iAsked l m p hl hm) ?_⟩
  · by_cases h : asked l m p = true
    · simp only [h, if_true]
      exact Ev.bind (sLast l m p h) (Ev.now _)
    · simp only [h, Bool.false_eq_true, if_false]
      exact Ev.now _
  · by_cases h : asked l m p = true
    · obtain ⟨h1, h2, h3⟩ := sEnds l m p h
      obtain ⟨b1, b2, b3, _, _⟩ := asked_at h
      obtain ⟨r, hr, hE⟩ := maxLoop (endsOf l m p).2 (by omega) (by omega)
      have he := isMax_one hr (endsMax l m p h)
      simp only [h, if_true]
      refine Ev.bind (iEnds l m p h) ?_
      rw [he] at hE
      exact Ev.bind hE (Ev.now _)
    · simp only [h, Bool.false_eq_true, if_false]
      exact Ev.now _
theorem vIntsE (l : List Int) (hm : l.length ≤ 1048576) : Ev (fun k => laws_vInts.f k l l) true := by
  unfold laws_vInts.f
  simp only [if_true]
  have h := scanE l.length (fun _ => true) true false (fun k i => laws_vInts.l0 k l l i) ?hs ?hb ?he
  case hs =>
    intro i r hi _ hr
    refine Ev.succ ?_
    simp only [laws_vInts.l0, if_pos (show (i : Int) < (l.length : Int) by omega), if_pos (show (0 : Int) ≤ (i : Int) by omega), if_true, stepI i (by omega)]
    exact hr
  case hb => intro i _ h; cases h
  case he =>
    refine Ev.succ ?_
    simp only [laws_vInts.l0, if_neg (show ¬ ((l.length : Int) < (l.length : Int)) by omega)]
    exact Ev.now _
  simpa using h
theorem iBestPlan (l : List S51) (m : List Int) (hl : l.length ≤ 1048576) (hm : m.length ≤ 1048576) : impl_BestLoomPlan.f l m = some (bestRes l m) := by
  unfold impl_BestLoomPlan.f bestRes
  rw [if_pos ⟨hl, hm⟩]
theorem planRes_at {l : List S51} {m p : List Int} : planRes l m p = (asked l m p, goodJ l && goodL m) := by
  unfold planRes asked
  cases (goodJ l && goodL m) <;> simp
/-- The best plan is not later than any. -/
theorem best_at {l : List S51} {m p : List Int} (h : asked l m p = true) : (bestRes l m).2 = true ∧ asked l m (bestRes l m).1 = true ∧ lateP l m (bestRes l m).1 ≤ lateP l m p ∧ (lateP l m (bestRes l m).1 = lateP l m p → lastP l m (bestRes l m).1 ≤ lastP l m p) := by
  have hg : (goodJ l && goodL m) = true := by
    unfold asked at h
    rw [Bool.and_eq_true] at h
    exact h.1
  have hp := plansTo_full l m _ _ (asked_partial h)
  obtain ⟨h1, h2⟩ := bestP_least hp
  have hm := plansTo_sound l m _ _ (bestP_mem h1)
  unfold bestRes
  rw [if_pos hg]
  rw [Bool.and_eq_true] at hg
  unfold betterP at h2
  exact ⟨h1, partial_asked hg.1 hg.2 hm, by omega, by omega⟩
end Go.Proofs.Ytcgpibbbkdhpeaa.M

namespace Go.Proofs.Ytcgpibbbkdhpeaa.WK
open Go Go.RowKit Go.Proofs.Ytcgpibbbkdhpeaa.Q Go.Proofs.Ytcgpibbbkdhpeaa.M Go.Proofs.YtcgpibbbkdhpeaaW.PrintWords Go.Proofs.YtcgpibbbkdhpeaaW.Pl Go.Proofs.YtcgpibbbkdhpeaaW.SL
set_option linter.unusedSimpArgs false
set_option linter.unusedVariables false
set_option maxRecDepth 100000
namespace LP
theorem en38 : Ent Try.prog 38 := ⟨enters_of Try.func38 (by kernel_rfl) rfl⟩
theorem en45 : Ent Try.prog 45 := ⟨enters_of Try.func45 (by kernel_rfl) rfl⟩
theorem en21 : Ent Try.prog 21 := ⟨enters_of Try.func21 (by kernel_rfl) rfl⟩
theorem en19 : Ent Try.prog 19 := ⟨enters_of Try.func19 (by kernel_rfl) rfl⟩
theorem en17 : Ent Try.prog 17 := ⟨enters_of Try.func17 (by kernel_rfl) rfl⟩
theorem en15 : Ent Try.prog 15 := ⟨enters_of Try.func15 (by kernel_rfl) rfl⟩
theorem en31 : Ent Try.prog 31 := ⟨enters_of Try.func31 (by kernel_rfl) rfl⟩
theorem en30 : Ent Try.prog 30 := ⟨enters_of Try.func30 (by kernel_rfl) rfl⟩
theorem en33 : Ent Try.prog 33 := ⟨enters_of Try.func33 (by kernel_rfl) rfl⟩
theorem en32 : Ent Try.prog 32 := ⟨enters_of Try.func32 (by kernel_rfl) rfl⟩
theorem en44 : Ent Try.prog 44 := ⟨enters_of Try.func44 (by kernel_rfl) rfl⟩
theorem en46 : Ent Try.prog 46 := ⟨enters_of Try.func46 (by kernel_rfl) rfl⟩
theorem en43 : Ent Try.prog 43 := ⟨enters_of Try.func43 (by kernel_rfl) rfl⟩
theorem en40 : Ent Try.prog 40 := ⟨enters_of Try.func40 (by kernel_rfl) rfl⟩
theorem en24 : Ent Try.prog 24 := ⟨enters_of Try.func24 (by kernel_rfl) rfl⟩
theorem en23 : Ent Try.prog 23 := ⟨enters_of Try.func23 (by kernel_rfl) rfl⟩
theorem vI_ (k : Nat) (A0 : Option Addr) (c0 : Nat) (l0 : List Int) (A1 : Option Addr) (c1 : Nat) (l1 : List Int) (r : Bool) (w : World) (hr0 : Kd.C (Kd.int .i64) w A0 l0.length l0) (hc0 : l0.length ≤ c0) (hr1 : Kd.C (Kd.int .i64) w A1 l1.length l1) (hc1 : l1.length ≤ c1) (h : laws_vInts.f k l0 l1 = some r) :
    Calls Try.prog 40 #[.slice A0 l0.length c0, .slice A1 l1.length c1] w fun e w' => e = .returned (.bool r) ∧ Below w.heap.size w w' := (laws_vInts.calls k A0 c0 l0 A1 c1 l1 r w hr0 hc0 hr1 hc1 h).mono (fun _ _ h => ⟨h.1, h.2.below⟩)
theorem vB_ (A0 : Option Addr) (c0 : Nat) (l0 : List Int) (r : Bool) (w : World) (hr0 : Kd.C (Kd.int .u8) w A0 l0.length l0) (hc0 : l0.length ≤ c0) (h : laws_vBig.f l0 = some r) : Calls Try.prog 38 #[.slice A0 l0.length c0] w fun e w' => e = .returned (.bool r) ∧ Below w.heap.size w w' := (laws_vBig.calls _ _ l0 r w hr0 hc0 h).mono (fun _ _ h => ⟨h.1, h.2.below⟩)
set_option maxHeartbeats 2000000 in
theorem walkB (l0 : List Int) (A0 : Option Addr) (c0 : Nat) (w : World) (hr0 : Kd.C (Kd.int .u8) w A0 l0.length l0) (hc0 : l0.length ≤ c0) (hbig : laws_vBig.f l0 = some true) : Calls Try.prog 13 #[.slice A0 l0.length c0] w fun e w' => e = .returned (.bool true) ∧ Below w.heap.size w w' := by
  let Rr : Ending → World → Prop := fun e w' => e = .returned (.bool true) ∧ Below w.heap.size w w'
  refine enterW (args := [.slice A0 l0.length c0]) [(fun W => (Kd.int .u8).C W A0 l0.length l0)] (fun p hp W hb => by rw [List.mem_singleton.1 hp]; exact Kd.C_below hr0 hb) Try.func13 rfl rfl ?_
  show Cj Try.prog _ _ _ (bodyPost Try.prog Try.f13 Rr) _ _ _
  repeat (first
    | (apply gateO; first
      | refine Jl.yd (Y.mv rfl rfl) rfl rfl rfl ?_
      | refine Jl.yd (Y.asg rfl rfl) rfl rfl rfl ?_
      | refine Jl.yd (Y.ext rfl rfl rfl) rfl rfl rfl ?_
      | refine Jl.yd (Y.pickT rfl rfl rfl) rfl rfl rfl ?_
      | refine Jl.yd (Y.pickF rfl rfl rfl) rfl rfl rfl ?_
      | refine Jl.off rfl rfl rfl ?_
      | refine Jl.yd (Y.cmpF rfl rfl rfl rfl (by omega)) rfl rfl rfl ?_
      | refine Jl.yd (Y.cmpT rfl rfl rfl rfl (by omega)) rfl rfl rfl ?_
      | refine Jl.yd (Y.neqB rfl rfl rfl Try.underlying4) rfl rfl rfl ?_
      | refine Jl.yd (Y.cmp rfl rfl rfl rfl) rfl rfl rfl ?_
      | refine Jl.yd (Y.not rfl rfl) rfl rfl rfl ?_
      | refine Jl.yd (Y.arithN rfl rfl rfl rfl (by omega)) rfl rfl rfl ?_
      | refine Jl.yd (Y.arith64 rfl rfl rfl rfl) rfl rfl rfl ?_
      | refine Jl.call1 (v := .bool true) rfl rfl rfl rfl en38 rfl (fun w hW => by with_reducible exact vB_ A0 c0 l0 true w (hW.fact (p := (fun W => (Kd.int .u8).C W A0 l0.length l0)) (by repeat (first | exact memH | refine memT ?_))) hc0 hbig) ?_
      | refine Jl.splitG rfl rfl (fun h => ?_) (fun h => ?_))
    | (apply gateE; first
      | refine Jl.nil (Ej.go ?_ (fun _ _ h => h))
      | (refine Jl.nil (Ej.back (fun _ _ h => h) (by repeat (first | exact .refl | apply DropTo.tail)) ?_); repeat (first | exact trivial | refine ⟨rfl, ?_⟩)))
    | (apply gateC; first
      | refine Cj.ret rfl (Ej.out1 (P := Try.prog) (fn := Try.f13) (R := Rr) (fun _ _ h => h) rfl rfl (fun w' hW => ⟨rfl, hW.below⟩))
      | refine Cj.condF rfl rfl (Cj.skip rfl (Ej.go ?_ (fun _ _ h => h)))
      | (refine Cj.condF rfl rfl (Cj.skip rfl (Ej.back (fun _ _ h => h) (by repeat (first | exact .refl | apply DropTo.tail)) ?_)); repeat (first | exact trivial | refine ⟨rfl, ?_⟩))
      | refine Cj.condF rfl rfl ?_
      | refine Cj.condT rfl rfl ?_
      | refine Cj.exit rfl (Ej.go ?_ (fun _ _ h => h))
      | refine Cj.cond rfl rfl (fun h => ?_) (fun h => ?_)
      | refine Cj.skip rfl (Ej.go ?_ (fun _ _ h => h))
      | (refine Cj.skip rfl (Ej.back (fun _ _ h => h) (by repeat (first | exact .refl | apply DropTo.tail)) ?_); repeat (first | exact trivial | refine ⟨rfl, ?_⟩))
      | refine Cj.seq rfl ?_
      | refine Cj.region rfl ?_))
set_option maxHeartbeats 8000000 in
theorem walkE (l0 : List Int) (A0 : Option Addr) (c0 : Nat) (w : World) (hr0 : Kd.C (Kd.int .u8) w A0 l0.length l0) (hc0 : l0.length ≤ c0) (hbig : laws_vBig.f l0 = some false) (jobs : List S51) (looms plan B NW : List Int) (gj : Bool) (k1 k2 k3 k4 k5 k6 k7 k8 k9 k10 k11 k12 k13 k14 k15 k16 k17 k18 : Nat) (hD1 : spec_DrawIsLoomPlan.f k1 l0 = some (jobs, looms, plan)) (hD2 : spec_DrawBestLoomPlan.f k2 l0 = some (jobs, looms)) (hij : impl_AreJobs.f k5 jobs = some gj) (hsj : spec_AreJobs.f k6 jobs = some gj) (hv1 : laws_vInts.f k14 B B = some true) (hv2 : laws_vInts.f k17 NW NW = some true) (late last lb eb : Int) (hip : impl_IsLoomPlan.f k3 jobs looms plan = some (true, true)) (hsp : spec_IsLoomPlan.f k4 jobs looms plan = some (true, true)) (hli : impl_LateDays.f k7 jobs looms plan = some (late, true)) (hls : spec_LateDays.f k8 jobs looms plan = some (late, true)) (hei : impl_LastEnd.f k9 jobs looms plan = some (last, true)) (hes : spec_LastEnd.f k10 jobs looms plan = some (last, true)) (hib : impl_BestLoomPlan.f jobs looms = some (B, true)) (hsb : spec_BestLoomPlan.f k13 jobs looms = some (B, true)) (hin : impl_NarrowestFor.f k15 jobs looms = some (NW, true)) (hsn : spec_NarrowestFor.f k16 jobs looms = some (NW, true)) (hlb : impl_LateDays.f k11 jobs looms B = some (lb, true)) (heb : impl_LastEnd.f k12 jobs looms B = some (eb, true)) (hz : impl_IsLoomPlan.f k18 jobs looms NW = some (true, true)) (he : lb = late) (hle : eb ≤ last) : Calls Try.prog 13 #[.slice A0 l0.length c0] w fun e w' => e = .returned (.bool true) ∧ Below w.heap.size w w' := by
  let Rr : Ending → World → Prop := fun e w' => e = .returned (.bool true) ∧ Below w.heap.size w w'
  refine enterW (args := [.slice A0 l0.length c0]) [(fun W => (Kd.int .u8).C W A0 l0.length l0)] (fun p hp W hb => by rw [List.mem_singleton.1 hp]; exact Kd.C_below hr0 hb) Try.func13 rfl rfl ?_
  show Cj Try.prog _ _ _ (bodyPost Try.prog Try.f13 Rr) _ _ _
  repeat (first
    | (apply gateO; first
      | refine Jl.yd (Y.mv rfl rfl) rfl rfl rfl ?_
      | refine Jl.yd (Y.asg rfl rfl) rfl rfl rfl ?_
      | refine Jl.yd (Y.ext rfl rfl rfl) rfl rfl rfl ?_
      | refine Jl.yd (Y.pickT rfl rfl rfl) rfl rfl rfl ?_
      | refine Jl.yd (Y.pickF rfl rfl rfl) rfl rfl rfl ?_
      | refine Jl.off rfl rfl rfl ?_
      | refine Jl.yd (Y.cmpF rfl rfl rfl rfl (by omega)) rfl rfl rfl ?_
      | refine Jl.yd (Y.cmpT rfl rfl rfl rfl (by omega)) rfl rfl rfl ?_
      | refine Jl.yd (Y.neqB rfl rfl rfl Try.underlying4) rfl rfl rfl ?_
      | refine Jl.yd (Y.cmp rfl rfl rfl rfl) rfl rfl rfl ?_
      | refine Jl.yd (Y.not rfl rfl) rfl rfl rfl ?_
      | refine Jl.yd (Y.arithN rfl rfl rfl rfl (by omega)) rfl rfl rfl ?_
      | refine Jl.yd (Y.arith64 rfl rfl rfl rfl) rfl rfl rfl ?_
      | refine Jl.call1 (v := .bool false) rfl rfl rfl rfl en38 rfl (fun w hW => by with_reducible exact vB_ A0 c0 l0 false w (hW.fact (p := (fun W => (Kd.int .u8).C W A0 l0.length l0)) (by repeat (first | exact memH | refine memT ?_))) hc0 hbig) ?_
      | refine Jl.draw3 (fun v0 v1 v2 => .tuple #[v0, v1, v2]) jobs looms plan rfl rfl rfl rfl en45 rfl (fun w hW => by with_reducible exact spec_DrawIsLoomPlan.calls k1 A0 c0 l0 jobs looms plan w (hW.fact (p := (fun W => (Kd.int .u8).C W A0 l0.length l0)) (by repeat (first | exact memH | refine memT ?_))) hc0 hD1) (fun Aj1 cj1 Am1 cm1 Ap cp hj1 hm1 hp => ?_)
      | refine Jl.call1 (v := .tuple #[.bool true, .bool true]) rfl rfl rfl rfl en21 rfl (fun w hW => by with_reducible exact impl_IsLoomPlan.calls k3 Aj1 cj1 jobs Am1 cm1 looms Ap cp plan true true w (hW.fact (p := (fun W => Kd.C k51 W Aj1 jobs.length jobs)) (by repeat (first | exact memH | refine memT ?_))) hj1 (hW.fact (p := (fun W => (Kd.int .i64).C W Am1 looms.length looms)) (by repeat (first | exact memH | refine memT ?_))) hm1 (hW.fact (p := (fun W => (Kd.int .i64).C W Ap plan.length plan)) (by repeat (first | exact memH | refine memT ?_))) hp hip) ?_
      | refine Jl.call1 (v := .tuple #[.bool true, .bool true]) rfl rfl rfl rfl en19 rfl (fun w hW => by with_reducible exact spec_IsLoomPlan.calls k4 Aj1 cj1 jobs Am1 cm1 looms Ap cp plan true true w (hW.fact (p := (fun W => Kd.C k51 W Aj1 jobs.length jobs)) (by repeat (first | exact memH | refine memT ?_))) hj1 (hW.fact (p := (fun W => (Kd.int .i64).C W Am1 looms.length looms)) (by repeat (first | exact memH | refine memT ?_))) hm1 (hW.fact (p := (fun W => (Kd.int .i64).C W Ap plan.length plan)) (by repeat (first | exact memH | refine memT ?_))) hp hsp) ?_
      | refine Jl.call1 (v := .bool gj) rfl rfl rfl rfl en17 rfl (fun w hW => by with_reducible exact impl_AreJobs.calls k5 Aj1 cj1 jobs gj w (hW.fact (p := (fun W => Kd.C k51 W Aj1 jobs.length jobs)) (by repeat (first | exact memH | refine memT ?_))) hj1 hij) ?_
      | refine Jl.call1 (v := .bool gj) rfl rfl rfl rfl en15 rfl (fun w hW => by with_reducible exact spec_AreJobs.calls k6 Aj1 cj1 jobs gj w (hW.fact (p := (fun W => Kd.C k51 W Aj1 jobs.length jobs)) (by repeat (first | exact memH | refine memT ?_))) hj1 hsj) ?_
      | refine Jl.call1 (v := .tuple #[.int .i64 late, .bool true]) rfl rfl rfl rfl en31 rfl (fun w hW => by with_reducible exact impl_LateDays.calls k7 Aj1 cj1 jobs Am1 cm1 looms Ap cp plan late true w (hW.fact (p := (fun W => Kd.C k51 W Aj1 jobs.length jobs)) (by repeat (first | exact memH | refine memT ?_))) hj1 (hW.fact (p := (fun W => (Kd.int .i64).C W Am1 looms.length looms)) (by repeat (first | exact memH | refine memT ?_))) hm1 (hW.fact (p := (fun W => (Kd.int .i64).C W Ap plan.length plan)) (by repeat (first | exact memH | refine memT ?_))) hp hli) ?_
      | refine Jl.call1 (v := .tuple #[.int .i64 late, .bool true]) rfl rfl rfl rfl en30 rfl (fun w hW => by with_reducible exact spec_LateDays.calls k8 Aj1 cj1 jobs Am1 cm1 looms Ap cp plan late true w (hW.fact (p := (fun W => Kd.C k51 W Aj1 jobs.length jobs)) (by repeat (first | exact memH | refine memT ?_))) hj1 (hW.fact (p := (fun W => (Kd.int .i64).C W Am1 looms.length looms)) (by repeat (first | exact memH | refine memT ?_))) hm1 (hW.fact (p := (fun W => (Kd.int .i64).C W Ap plan.length plan)) (by repeat (first | exact memH | refine memT ?_))) hp hls) ?_
      | refine Jl.call1 (v := .tuple #[.int .i64 last, .bool true]) rfl rfl rfl rfl en33 rfl (fun w hW => by with_reducible exact impl_LastEnd.calls k9 Aj1 cj1 jobs Am1 cm1 looms Ap cp plan last true w (hW.fact (p := (fun W => Kd.C k51 W Aj1 jobs.length jobs)) (by repeat (first | exact memH | refine memT ?_))) hj1 (hW.fact (p := (fun W => (Kd.int .i64).C W Am1 looms.length looms)) (by repeat (first | exact memH | refine memT ?_))) hm1 (hW.fact (p := (fun W => (Kd.int .i64).C W Ap plan.length plan)) (by repeat (first | exact memH | refine memT ?_))) hp hei) ?_
      | refine Jl.call1 (v := .tuple #[.int .i64 last, .bool true]) rfl rfl rfl rfl en32 rfl (fun w hW => by with_reducible exact spec_LastEnd.calls k10 Aj1 cj1 jobs Am1 cm1 looms Ap cp plan last true w (hW.fact (p := (fun W => Kd.C k51 W Aj1 jobs.length jobs)) (by repeat (first | exact memH | refine memT ?_))) hj1 (hW.fact (p := (fun W => (Kd.int .i64).C W Am1 looms.length looms)) (by repeat (first | exact memH | refine memT ?_))) hm1 (hW.fact (p := (fun W => (Kd.int .i64).C W Ap plan.length plan)) (by repeat (first | exact memH | refine memT ?_))) hp hes) ?_
      | refine Jl.draw1 (fun v => .tuple #[v, .bool true]) B rfl rfl rfl rfl en44 rfl (fun w hW => by with_reducible exact impl_BestLoomPlan.calls  Aj1 cj1 jobs Am1 cm1 looms B true w (hW.fact (p := (fun W => Kd.C k51 W Aj1 jobs.length jobs)) (by repeat (first | exact memH | refine memT ?_))) hj1 (hW.fact (p := (fun W => (Kd.int .i64).C W Am1 looms.length looms)) (by repeat (first | exact memH | refine memT ?_))) hm1 hib) (fun Ab cb hb => ?_)
      | refine Jl.call1 (v := .tuple #[.int .i64 lb, .bool true]) rfl rfl rfl rfl en31 rfl (fun w hW => by with_reducible exact impl_LateDays.calls k11 Aj1 cj1 jobs Am1 cm1 looms Ab cb B lb true w (hW.fact (p := (fun W => Kd.C k51 W Aj1 jobs.length jobs)) (by repeat (first | exact memH | refine memT ?_))) hj1 (hW.fact (p := (fun W => (Kd.int .i64).C W Am1 looms.length looms)) (by repeat (first | exact memH | refine memT ?_))) hm1 (hW.fact (p := (fun W => (Kd.int .i64).C W Ab B.length B)) (by repeat (first | exact memH | refine memT ?_))) hb hlb) ?_
      | refine Jl.call1 (v := .tuple #[.int .i64 eb, .bool true]) rfl rfl rfl rfl en33 rfl (fun w hW => by with_reducible exact impl_LastEnd.calls k12 Aj1 cj1 jobs Am1 cm1 looms Ab cb B eb true w (hW.fact (p := (fun W => Kd.C k51 W Aj1 jobs.length jobs)) (by repeat (first | exact memH | refine memT ?_))) hj1 (hW.fact (p := (fun W => (Kd.int .i64).C W Am1 looms.length looms)) (by repeat (first | exact memH | refine memT ?_))) hm1 (hW.fact (p := (fun W => (Kd.int .i64).C W Ab B.length B)) (by repeat (first | exact memH | refine memT ?_))) hb heb) ?_
      | refine Jl.draw2 (fun v0 v1 => .tuple #[v0, v1]) jobs looms rfl rfl rfl rfl en46 rfl (fun w hW => by with_reducible exact spec_DrawBestLoomPlan.calls k2 A0 c0 l0 jobs looms w (hW.fact (p := (fun W => (Kd.int .u8).C W A0 l0.length l0)) (by repeat (first | exact memH | refine memT ?_))) hc0 hD2) (fun Aj2 cj2 Am2 cm2 hj2 hm2 => ?_)
      | refine Jl.draw1 (fun v => .tuple #[v, .bool true]) B rfl rfl rfl rfl en44 rfl (fun w hW => by with_reducible exact impl_BestLoomPlan.calls  Aj2 cj2 jobs Am2 cm2 looms B true w (hW.fact (p := (fun W => Kd.C k51 W Aj2 jobs.length jobs)) (by repeat (first | exact memH | refine memT ?_))) hj2 (hW.fact (p := (fun W => (Kd.int .i64).C W Am2 looms.length looms)) (by repeat (first | exact memH | refine memT ?_))) hm2 hib) (fun Ac cc hc => ?_)
      | refine Jl.draw1 (fun v => .tuple #[v, .bool true]) B rfl rfl rfl rfl en43 rfl (fun w hW => by with_reducible exact spec_BestLoomPlan.calls k13 Aj2 cj2 jobs Am2 cm2 looms B true w (hW.fact (p := (fun W => Kd.C k51 W Aj2 jobs.length jobs)) (by repeat (first | exact memH | refine memT ?_))) hj2 (hW.fact (p := (fun W => (Kd.int .i64).C W Am2 looms.length looms)) (by repeat (first | exact memH | refine memT ?_))) hm2 hsb) (fun Ad cd hd => ?_)
      | refine Jl.call1 (v := .bool true) rfl rfl rfl rfl en40 rfl (fun w hW => by with_reducible exact vI_ k14 Ac cc B Ad cd B true w (hW.fact (p := (fun W => (Kd.int .i64).C W Ac B.length B)) (by repeat (first | exact memH | refine memT ?_))) hc (hW.fact (p := (fun W => (Kd.int .i64).C W Ad B.length B)) (by repeat (first | exact memH | refine memT ?_))) hd hv1) ?_
      | refine Jl.draw1 (fun v => .tuple #[v, .bool true]) NW rfl rfl rfl rfl en24 rfl (fun w hW => by with_reducible exact impl_NarrowestFor.calls k15 Aj2 cj2 jobs Am2 cm2 looms NW true w (hW.fact (p := (fun W => Kd.C k51 W Aj2 jobs.length jobs)) (by repeat (first | exact memH | refine memT ?_))) hj2 (hW.fact (p := (fun W => (Kd.int .i64).C W Am2 looms.length looms)) (by repeat (first | exact memH | refine memT ?_))) hm2 hin) (fun An cn hn => ?_)
      | refine Jl.draw1 (fun v => .tuple #[v, .bool true]) NW rfl rfl rfl rfl en23 rfl (fun w hW => by with_reducible exact spec_NarrowestFor.calls k16 Aj2 cj2 jobs Am2 cm2 looms NW true w (hW.fact (p := (fun W => Kd.C k51 W Aj2 jobs.length jobs)) (by repeat (first | exact memH | refine memT ?_))) hj2 (hW.fact (p := (fun W => (Kd.int .i64).C W Am2 looms.length looms)) (by repeat (first | exact memH | refine memT ?_))) hm2 hsn) (fun Ao co ho => ?_)
      | refine Jl.call1 (v := .bool true) rfl rfl rfl rfl en40 rfl (fun w hW => by with_reducible exact vI_ k17 An cn NW Ao co NW true w (hW.fact (p := (fun W => (Kd.int .i64).C W An NW.length NW)) (by repeat (first | exact memH | refine memT ?_))) hn (hW.fact (p := (fun W => (Kd.int .i64).C W Ao NW.length NW)) (by repeat (first | exact memH | refine memT ?_))) ho hv2) ?_
      | refine Jl.call1 (v := .tuple #[.bool true, .bool true]) rfl rfl rfl rfl en21 rfl (fun w hW => by with_reducible exact impl_IsLoomPlan.calls k18 Aj2 cj2 jobs Am2 cm2 looms An cn NW true true w (hW.fact (p := (fun W => Kd.C k51 W Aj2 jobs.length jobs)) (by repeat (first | exact memH | refine memT ?_))) hj2 (hW.fact (p := (fun W => (Kd.int .i64).C W Am2 looms.length looms)) (by repeat (first | exact memH | refine memT ?_))) hm2 (hW.fact (p := (fun W => (Kd.int .i64).C W An NW.length NW)) (by repeat (first | exact memH | refine memT ?_))) hn hz) ?_
      | refine Jl.splitG rfl rfl (fun h => ?_) (fun h => ?_))
    | (apply gateE; first
      | refine Jl.nil (Ej.go ?_ (fun _ _ h => h))
      | (refine Jl.nil (Ej.back (fun _ _ h => h) (by repeat (first | exact .refl | apply DropTo.tail)) ?_); repeat (first | exact trivial | refine ⟨rfl, ?_⟩)))
    | (apply gateC; first
      | refine Cj.ret rfl (Ej.out1 (P := Try.prog) (fn := Try.f13) (R := Rr) (fun _ _ h => h) rfl rfl (fun w' hW => ⟨rfl, hW.below⟩))
      | refine Cj.condF rfl rfl (Cj.skip rfl (Ej.go ?_ (fun _ _ h => h)))
      | (refine Cj.condF rfl rfl (Cj.skip rfl (Ej.back (fun _ _ h => h) (by repeat (first | exact .refl | apply DropTo.tail)) ?_)); repeat (first | exact trivial | refine ⟨rfl, ?_⟩))
      | refine Cj.condF rfl rfl ?_
      | refine Cj.condT rfl rfl ?_
      | refine Cj.exit rfl (Ej.go ?_ (fun _ _ h => h))
      | refine Cj.cond rfl rfl (fun h => ?_) (fun h => ?_)
      | refine Cj.skip rfl (Ej.go ?_ (fun _ _ h => h))
      | (refine Cj.skip rfl (Ej.back (fun _ _ h => h) (by repeat (first | exact .refl | apply DropTo.tail)) ?_); repeat (first | exact trivial | refine ⟨rfl, ?_⟩))
      | refine Cj.seq rfl ?_
      | refine Cj.region rfl ?_))
set_option maxHeartbeats 8000000 in
theorem walkL (l0 : List Int) (A0 : Option Addr) (c0 : Nat) (w : World) (hr0 : Kd.C (Kd.int .u8) w A0 l0.length l0) (hc0 : l0.length ≤ c0) (hbig : laws_vBig.f l0 = some false) (jobs : List S51) (looms plan B NW : List Int) (gj : Bool) (k1 k2 k3 k4 k5 k6 k7 k8 k9 k10 k11 k12 k13 k14 k15 k16 k17 k18 : Nat) (hD1 : spec_DrawIsLoomPlan.f k1 l0 = some (jobs, looms, plan)) (hD2 : spec_DrawBestLoomPlan.f k2 l0 = some (jobs, looms)) (hij : impl_AreJobs.f k5 jobs = some gj) (hsj : spec_AreJobs.f k6 jobs = some gj) (hv1 : laws_vInts.f k14 B B = some true) (hv2 : laws_vInts.f k17 NW NW = some true) (late last lb eb : Int) (hip : impl_IsLoomPlan.f k3 jobs looms plan = some (true, true)) (hsp : spec_IsLoomPlan.f k4 jobs looms plan = some (true, true)) (hli : impl_LateDays.f k7 jobs looms plan = some (late, true)) (hls : spec_LateDays.f k8 jobs looms plan = some (late, true)) (hei : impl_LastEnd.f k9 jobs looms plan = some (last, true)) (hes : spec_LastEnd.f k10 jobs looms plan = some (last, true)) (hib : impl_BestLoomPlan.f jobs looms = some (B, true)) (hsb : spec_BestLoomPlan.f k13 jobs looms = some (B, true)) (hin : impl_NarrowestFor.f k15 jobs looms = some (NW, true)) (hsn : spec_NarrowestFor.f k16 jobs looms = some (NW, true)) (hlb : impl_LateDays.f k11 jobs looms B = some (lb, true)) (heb : impl_LastEnd.f k12 jobs looms B = some (eb, true)) (hz : impl_IsLoomPlan.f k18 jobs looms NW = some (true, true)) (he : lb < late) : Calls Try.prog 13 #[.slice A0 l0.length c0] w fun e w' => e = .returned (.bool true) ∧ Below w.heap.size w w' := by
  let Rr : Ending → World → Prop := fun e w' => e = .returned (.bool true) ∧ Below w.heap.size w w'
  refine enterW (args := [.slice A0 l0.length c0]) [(fun W => (Kd.int .u8).C W A0 l0.length l0)] (fun p hp W hb => by rw [List.mem_singleton.1 hp]; exact Kd.C_below hr0 hb) Try.func13 rfl rfl ?_
  show Cj Try.prog _ _ _ (bodyPost Try.prog Try.f13 Rr) _ _ _
  repeat (first
    | (apply gateO; first
      | refine Jl.yd (Y.mv rfl rfl) rfl rfl rfl ?_
      | refine Jl.yd (Y.asg rfl rfl) rfl rfl rfl ?_
      | refine Jl.yd (Y.ext rfl rfl rfl) rfl rfl rfl ?_
      | refine Jl.yd (Y.pickT rfl rfl rfl) rfl rfl rfl ?_
      | refine Jl.yd (Y.pickF rfl rfl rfl) rfl rfl rfl ?_
      | refine Jl.off rfl rfl rfl ?_
      | refine Jl.yd (Y.cmpF rfl rfl rfl rfl (by omega)) rfl rfl rfl ?_
      | refine Jl.yd (Y.cmpT rfl rfl rfl rfl (by omega)) rfl rfl rfl ?_
      | refine Jl.yd (Y.neqB rfl rfl rfl Try.underlying4) rfl rfl rfl ?_
      | refine Jl.yd (Y.cmp rfl rfl rfl rfl) rfl rfl rfl ?_
      | refine Jl.yd (Y.not rfl rfl) rfl rfl rfl ?_
      | refine Jl.yd (Y.arithN rfl rfl rfl rfl (by omega)) rfl rfl rfl ?_
      | refine Jl.yd (Y.arith64 rfl rfl rfl rfl) rfl rfl rfl ?_
      | refine Jl.call1 (v := .bool false) rfl rfl rfl rfl en38 rfl (fun w hW => by with_reducible exact vB_ A0 c0 l0 false w (hW.fact (p := (fun W => (Kd.int .u8).C W A0 l0.length l0)) (by repeat (first | exact memH | refine memT ?_))) hc0 hbig) ?_
      | refine Jl.draw3 (fun v0 v1 v2 => .tuple #[v0, v1, v2]) jobs looms plan rfl rfl rfl rfl en45 rfl (fun w hW => by with_reducible exact spec_DrawIsLoomPlan.calls k1 A0 c0 l0 jobs looms plan w (hW.fact (p := (fun W => (Kd.int .u8).C W A0 l0.length l0)) (by repeat (first | exact memH | refine memT ?_))) hc0 hD1) (fun Aj1 cj1 Am1 cm1 Ap cp hj1 hm1 hp => ?_)
      | refine Jl.call1 (v := .tuple #[.bool true, .bool true]) rfl rfl rfl rfl en21 rfl (fun w hW => by with_reducible exact impl_IsLoomPlan.calls k3 Aj1 cj1 jobs Am1 cm1 looms Ap cp plan true true w (hW.fact (p := (fun W => Kd.C k51 W Aj1 jobs.length jobs)) (by repeat (first | exact memH | refine memT ?_))) hj1 (hW.fact (p := (fun W => (Kd.int .i64).C W Am1 looms.length looms)) (by repeat (first | exact memH | refine memT ?_))) hm1 (hW.fact (p := (fun W => (Kd.int .i64).C W Ap plan.length plan)) (by repeat (first | exact memH | refine memT ?_))) hp hip) ?_
      | refine Jl.call1 (v := .tuple #[.bool true, .bool true]) rfl rfl rfl rfl en19 rfl (fun w hW => by with_reducible exact spec_IsLoomPlan.calls k4 Aj1 cj1 jobs Am1 cm1 looms Ap cp plan true true w (hW.fact (p := (fun W => Kd.C k51 W Aj1 jobs.length jobs)) (by repeat (first | exact memH | refine memT ?_))) hj1 (hW.fact (p := (fun W => (Kd.int .i64).C W Am1 looms.length looms)) (by repeat (first | exact memH | refine memT ?_))) hm1 (hW.fact (p := (fun W => (Kd.int .i64).C W Ap plan.length plan)) (by repeat (first | exact memH | refine memT ?_))) hp hsp) ?_
      | refine Jl.call1 (v := .bool gj) rfl rfl rfl rfl en17 rfl (fun w hW => by with_reducible exact impl_AreJobs.calls k5 Aj1 cj1 jobs gj w (hW.fact (p := (fun W => Kd.C k51 W Aj1 jobs.length jobs)) (by repeat (first | exact memH | refine memT ?_))) hj1 hij) ?_
      | refine Jl.call1 (v := .bool gj) rfl rfl rfl rfl en15 rfl (fun w hW => by with_reducible exact spec_AreJobs.calls k6 Aj1 cj1 jobs gj w (hW.fact (p := (fun W => Kd.C k51 W Aj1 jobs.length jobs)) (by repeat (first | exact memH | refine memT ?_))) hj1 hsj) ?_
      | refine Jl.call1 (v := .tuple #[.int .i64 late, .bool true]) rfl rfl rfl rfl en31 rfl (fun w hW => by with_reducible exact impl_LateDays.calls k7 Aj1 cj1 jobs Am1 cm1 looms Ap cp plan late true w (hW.fact (p := (fun W => Kd.C k51 W Aj1 jobs.length jobs)) (by repeat (first | exact memH | refine memT ?_))) hj1 (hW.fact (p := (fun W => (Kd.int .i64).C W Am1 looms.length looms)) (by repeat (first | exact memH | refine memT ?_))) hm1 (hW.fact (p := (fun W => (Kd.int .i64).C W Ap plan.length plan)) (by repeat (first | exact memH | refine memT ?_))) hp hli) ?_
      | refine Jl.call1 (v := .tuple #[.int .i64 late, .bool true]) rfl rfl rfl rfl en30 rfl (fun w hW => by with_reducible exact spec_LateDays.calls k8 Aj1 cj1 jobs Am1 cm1 looms Ap cp plan late true w (hW.fact (p := (fun W => Kd.C k51 W Aj1 jobs.length jobs)) (by repeat (first | exact memH | refine memT ?_))) hj1 (hW.fact (p := (fun W => (Kd.int .i64).C W Am1 looms.length looms)) (by repeat (first | exact memH | refine memT ?_))) hm1 (hW.fact (p := (fun W => (Kd.int .i64).C W Ap plan.length plan)) (by repeat (first | exact memH | refine memT ?_))) hp hls) ?_
      | refine Jl.call1 (v := .tuple #[.int .i64 last, .bool true]) rfl rfl rfl rfl en33 rfl (fun w hW => by with_reducible exact impl_LastEnd.calls k9 Aj1 cj1 jobs Am1 cm1 looms Ap cp plan last true w (hW.fact (p := (fun W => Kd.C k51 W Aj1 jobs.length jobs)) (by repeat (first | exact memH | refine memT ?_))) hj1 (hW.fact (p := (fun W => (Kd.int .i64).C W Am1 looms.length looms)) (by repeat (first | exact memH | refine memT ?_))) hm1 (hW.fact (p := (fun W => (Kd.int .i64).C W Ap plan.length plan)) (by repeat (first | exact memH | refine memT ?_))) hp hei) ?_
      | refine Jl.call1 (v := .tuple #[.int .i64 last, .bool true]) rfl rfl rfl rfl en32 rfl (fun w hW => by with_reducible exact spec_LastEnd.calls k10 Aj1 cj1 jobs Am1 cm1 looms Ap cp plan last true w (hW.fact (p := (fun W => Kd.C k51 W Aj1 jobs.length jobs)) (by repeat (first | exact memH | refine memT ?_))) hj1 (hW.fact (p := (fun W => (Kd.int .i64).C W Am1 looms.length looms)) (by repeat (first | exact memH | refine memT ?_))) hm1 (hW.fact (p := (fun W => (Kd.int .i64).C W Ap plan.length plan)) (by repeat (first | exact memH | refine memT ?_))) hp hes) ?_
      | refine Jl.draw1 (fun v => .tuple #[v, .bool true]) B rfl rfl rfl rfl en44 rfl (fun w hW => by with_reducible exact impl_BestLoomPlan.calls  Aj1 cj1 jobs Am1 cm1 looms B true w (hW.fact (p := (fun W => Kd.C k51 W Aj1 jobs.length jobs)) (by repeat (first | exact memH | refine memT ?_))) hj1 (hW.fact (p := (fun W => (Kd.int .i64).C W Am1 looms.length looms)) (by repeat (first | exact memH | refine memT ?_))) hm1 hib) (fun Ab cb hb => ?_)
      | refine Jl.call1 (v := .tuple #[.int .i64 lb, .bool true]) rfl rfl rfl rfl en31 rfl (fun w hW => by with_reducible exact impl_LateDays.calls k11 Aj1 cj1 jobs Am1 cm1 looms Ab cb B lb true w (hW.fact (p := (fun W => Kd.C k51 W Aj1 jobs.length jobs)) (by repeat (first | exact memH | refine memT ?_))) hj1 (hW.fact (p := (fun W => (Kd.int .i64).C W Am1 looms.length looms)) (by repeat (first | exact memH | refine memT ?_))) hm1 (hW.fact (p := (fun W => (Kd.int .i64).C W Ab B.length B)) (by repeat (first | exact memH | refine memT ?_))) hb hlb) ?_
      | refine Jl.call1 (v := .tuple #[.int .i64 eb, .bool true]) rfl rfl rfl rfl en33 rfl (fun w hW => by with_reducible exact impl_LastEnd.calls k12 Aj1 cj1 jobs Am1 cm1 looms Ab cb B eb true w (hW.fact (p := (fun W => Kd.C k51 W Aj1 jobs.length jobs)) (by repeat (first | exact memH | refine memT ?_))) hj1 (hW.fact (p := (fun W => (Kd.int .i64).C W Am1 looms.length looms)) (by repeat (first | exact memH | refine memT ?_))) hm1 (hW.fact (p := (fun W => (Kd.int .i64).C W Ab B.length B)) (by repeat (first | exact memH | refine memT ?_))) hb heb) ?_
      | refine Jl.draw2 (fun v0 v1 => .tuple #[v0, v1]) jobs looms rfl rfl rfl rfl en46 rfl (fun w hW => by with_reducible exact spec_DrawBestLoomPlan.calls k2 A0 c0 l0 jobs looms w (hW.fact (p := (fun W => (Kd.int .u8).C W A0 l0.length l0)) (by repeat (first | exact memH | refine memT ?_))) hc0 hD2) (fun Aj2 cj2 Am2 cm2 hj2 hm2 => ?_)
      | refine Jl.draw1 (fun v => .tuple #[v, .bool true]) B rfl rfl rfl rfl en44 rfl (fun w hW => by with_reducible exact impl_BestLoomPlan.calls  Aj2 cj2 jobs Am2 cm2 looms B true w (hW.fact (p := (fun W => Kd.C k51 W Aj2 jobs.length jobs)) (by repeat (first | exact memH | refine memT ?_))) hj2 (hW.fact (p := (fun W => (Kd.int .i64).C W Am2 looms.length looms)) (by repeat (first | exact memH | refine memT ?_))) hm2 hib) (fun Ac cc hc => ?_)
      | refine Jl.draw1 (fun v => .tuple #[v, .bool true]) B rfl rfl rfl rfl en43 rfl (fun w hW => by with_reducible exact spec_BestLoomPlan.calls k13 Aj2 cj2 jobs Am2 cm2 looms B true w (hW.fact (p := (fun W => Kd.C k51 W Aj2 jobs.length jobs)) (by repeat (first | exact memH | refine memT ?_))) hj2 (hW.fact (p := (fun W => (Kd.int .i64).C W Am2 looms.length looms)) (by repeat (first | exact memH | refine memT ?_))) hm2 hsb) (fun Ad cd hd => ?_)
      | refine Jl.call1 (v := .bool true) rfl rfl rfl rfl en40 rfl (fun w hW => by with_reducible exact vI_ k14 Ac cc B Ad cd B true w (hW.fact (p := (fun W => (Kd.int .i64).C W Ac B.length B)) (by repeat (first | exact memH | refine memT ?_))) hc (hW.fact (p := (fun W => (Kd.int .i64).C W Ad B.length B)) (by repeat (first | exact memH | refine memT ?_))) hd hv1) ?_
      | refine Jl.draw1 (fun v => .tuple #[v, .bool true]) NW rfl rfl rfl rfl en24 rfl (fun w hW => by with_reducible exact impl_NarrowestFor.calls k15 Aj2 cj2 jobs Am2 cm2 looms NW true w (hW.fact (p := (fun W => Kd.C k51 W Aj2 jobs.length jobs)) (by repeat (first | exact memH | refine memT ?_))) hj2 (hW.fact (p := (fun W => (Kd.int .i64).C W Am2 looms.length looms)) (by repeat (first | exact memH | refine memT ?_))) hm2 hin) (fun An cn hn => ?_)
      | refine Jl.draw1 (fun v => .tuple #[v, .bool true]) NW rfl rfl rfl rfl en23 rfl (fun w hW => by with_reducible exact spec_NarrowestFor.calls k16 Aj2 cj2 jobs Am2 cm2 looms NW true w (hW.fact (p := (fun W => Kd.C k51 W Aj2 jobs.length jobs)) (by repeat (first | exact memH | refine memT ?_))) hj2 (hW.fact (p := (fun W => (Kd.int .i64).C W Am2 looms.length looms)) (by repeat (first | exact memH | refine memT ?_))) hm2 hsn) (fun Ao co ho => ?_)
      | refine Jl.call1 (v := .bool true) rfl rfl rfl rfl en40 rfl (fun w hW => by with_reducible exact vI_ k17 An cn NW Ao co NW true w (hW.fact (p := (fun W => (Kd.int .i64).C W An NW.length NW)) (by repeat (first | exact memH | refine memT ?_))) hn (hW.fact (p := (fun W => (Kd.int .i64).C W Ao NW.length NW)) (by repeat (first | exact memH | refine memT ?_))) ho hv2) ?_
      | refine Jl.call1 (v := .tuple #[.bool true, .bool true]) rfl rfl rfl rfl en21 rfl (fun w hW => by with_reducible exact impl_IsLoomPlan.calls k18 Aj2 cj2 jobs Am2 cm2 looms An cn NW true true w (hW.fact (p := (fun W => Kd.C k51 W Aj2 jobs.length jobs)) (by repeat (first | exact memH | refine memT ?_))) hj2 (hW.fact (p := (fun W => (Kd.int .i64).C W Am2 looms.length looms)) (by repeat (first | exact memH | refine memT ?_))) hm2 (hW.fact (p := (fun W => (Kd.int .i64).C W An NW.length NW)) (by repeat (first | exact memH | refine memT ?_))) hn hz) ?_
      | refine Jl.splitG rfl rfl (fun h => ?_) (fun h => ?_))
    | (apply gateE; first
      | refine Jl.nil (Ej.go ?_ (fun _ _ h => h))
      | (refine Jl.nil (Ej.back (fun _ _ h => h) (by repeat (first | exact .refl | apply DropTo.tail)) ?_); repeat (first | exact trivial | refine ⟨rfl, ?_⟩)))
    | (apply gateC; first
      | refine Cj.ret rfl (Ej.out1 (P := Try.prog) (fn := Try.f13) (R := Rr) (fun _ _ h => h) rfl rfl (fun w' hW => ⟨rfl, hW.below⟩))
      | refine Cj.condF rfl rfl (Cj.skip rfl (Ej.go ?_ (fun _ _ h => h)))
      | (refine Cj.condF rfl rfl (Cj.skip rfl (Ej.back (fun _ _ h => h) (by repeat (first | exact .refl | apply DropTo.tail)) ?_)); repeat (first | exact trivial | refine ⟨rfl, ?_⟩))
      | refine Cj.condF rfl rfl ?_
      | refine Cj.condT rfl rfl ?_
      | refine Cj.exit rfl (Ej.go ?_ (fun _ _ h => h))
      | refine Cj.cond rfl rfl (fun h => ?_) (fun h => ?_)
      | refine Cj.skip rfl (Ej.go ?_ (fun _ _ h => h))
      | (refine Cj.skip rfl (Ej.back (fun _ _ h => h) (by repeat (first | exact .refl | apply DropTo.tail)) ?_); repeat (first | exact trivial | refine ⟨rfl, ?_⟩))
      | refine Cj.seq rfl ?_
      | refine Cj.region rfl ?_))
set_option maxHeartbeats 8000000 in
theorem walkN (l0 : List Int) (A0 : Option Addr) (c0 : Nat) (w : World) (hr0 : Kd.C (Kd.int .u8) w A0 l0.length l0) (hc0 : l0.length ≤ c0) (hbig : laws_vBig.f l0 = some false) (jobs : List S51) (looms plan B NW : List Int) (gj : Bool) (k1 k2 k3 k4 k5 k6 k7 k8 k9 k10 k11 k12 k13 k14 k15 k16 k17 k18 : Nat) (hD1 : spec_DrawIsLoomPlan.f k1 l0 = some (jobs, looms, plan)) (hD2 : spec_DrawBestLoomPlan.f k2 l0 = some (jobs, looms)) (hij : impl_AreJobs.f k5 jobs = some gj) (hsj : spec_AreJobs.f k6 jobs = some gj) (hv1 : laws_vInts.f k14 B B = some true) (hv2 : laws_vInts.f k17 NW NW = some true) (G kn : Bool) (hip : impl_IsLoomPlan.f k3 jobs looms plan = some (false, G)) (hsp : spec_IsLoomPlan.f k4 jobs looms plan = some (false, G)) (hli : impl_LateDays.f k7 jobs looms plan = some (0, false)) (hls : spec_LateDays.f k8 jobs looms plan = some (0, false)) (hei : impl_LastEnd.f k9 jobs looms plan = some (0, false)) (hes : spec_LastEnd.f k10 jobs looms plan = some (0, false)) (hib : impl_BestLoomPlan.f jobs looms = some (B, kn)) (hsb : spec_BestLoomPlan.f k13 jobs looms = some (B, kn)) (hin : impl_NarrowestFor.f k15 jobs looms = some (NW, kn)) (hsn : spec_NarrowestFor.f k16 jobs looms = some (NW, kn)) (hz : kn = true → impl_IsLoomPlan.f k18 jobs looms NW = some (true, true)) : Calls Try.prog 13 #[.slice A0 l0.length c0] w fun e w' => e = .returned (.bool true) ∧ Below w.heap.size w w' := by
  let Rr : Ending → World → Prop := fun e w' => e = .returned (.bool true) ∧ Below w.heap.size w w'
  refine enterW (args := [.slice A0 l0.length c0]) [(fun W => (Kd.int .u8).C W A0 l0.length l0)] (fun p hp W hb => by rw [List.mem_singleton.1 hp]; exact Kd.C_below hr0 hb) Try.func13 rfl rfl ?_
  show Cj Try.prog _ _ _ (bodyPost Try.prog Try.f13 Rr) _ _ _
  repeat (first
    | (apply gateO; first
      | refine Jl.yd (Y.mv rfl rfl) rfl rfl rfl ?_
      | refine Jl.yd (Y.asg rfl rfl) rfl rfl rfl ?_
      | refine Jl.yd (Y.ext rfl rfl rfl) rfl rfl rfl ?_
      | refine Jl.yd (Y.pickT rfl rfl rfl) rfl rfl rfl ?_
      | refine Jl.yd (Y.pickF rfl rfl rfl) rfl rfl rfl ?_
      | refine Jl.off rfl rfl rfl ?_
      | refine Jl.yd (Y.cmpF rfl rfl rfl rfl (by omega)) rfl rfl rfl ?_
      | refine Jl.yd (Y.cmpT rfl rfl rfl rfl (by omega)) rfl rfl rfl ?_
      | refine Jl.yd (Y.neqB rfl rfl rfl Try.underlying4) rfl rfl rfl ?_
      | refine Jl.yd (Y.cmp rfl rfl rfl rfl) rfl rfl rfl ?_
      | refine Jl.yd (Y.not rfl rfl) rfl rfl rfl ?_
      | refine Jl.yd (Y.arithN rfl rfl rfl rfl (by omega)) rfl rfl rfl ?_
      | refine Jl.yd (Y.arith64 rfl rfl rfl rfl) rfl rfl rfl ?_
      | refine Jl.call1 (v := .bool false) rfl rfl rfl rfl en38 rfl (fun w hW => by with_reducible exact vB_ A0 c0 l0 false w (hW.fact (p := (fun W => (Kd.int .u8).C W A0 l0.length l0)) (by repeat (first | exact memH | refine memT ?_))) hc0 hbig) ?_
      | refine Jl.draw3 (fun v0 v1 v2 => .tuple #[v0, v1, v2]) jobs looms plan rfl rfl rfl rfl en45 rfl (fun w hW => by with_reducible exact spec_DrawIsLoomPlan.calls k1 A0 c0 l0 jobs looms plan w (hW.fact (p := (fun W => (Kd.int .u8).C W A0 l0.length l0)) (by repeat (first | exact memH | refine memT ?_))) hc0 hD1) (fun Aj1 cj1 Am1 cm1 Ap cp hj1 hm1 hp => ?_)
      | refine Jl.call1 (v := .tuple #[.bool false, .bool G]) rfl rfl rfl rfl en21 rfl (fun w hW => by with_reducible exact impl_IsLoomPlan.calls k3 Aj1 cj1 jobs Am1 cm1 looms Ap cp plan false G w (hW.fact (p := (fun W => Kd.C k51 W Aj1 jobs.length jobs)) (by repeat (first | exact memH | refine memT ?_))) hj1 (hW.fact (p := (fun W => (Kd.int .i64).C W Am1 looms.length looms)) (by repeat (first | exact memH | refine memT ?_))) hm1 (hW.fact (p := (fun W => (Kd.int .i64).C W Ap plan.length plan)) (by repeat (first | exact memH | refine memT ?_))) hp hip) ?_
      | refine Jl.call1 (v := .tuple #[.bool false, .bool G]) rfl rfl rfl rfl en19 rfl (fun w hW => by with_reducible exact spec_IsLoomPlan.calls k4 Aj1 cj1 jobs Am1 cm1 looms Ap cp plan false G w (hW.fact (p := (fun W => Kd.C k51 W Aj1 jobs.length jobs)) (by repeat (first | exact memH | refine memT ?_))) hj1 (hW.fact (p := (fun W => (Kd.int .i64).C W Am1 looms.length looms)) (by repeat (first | exact memH | refine memT ?_))) hm1 (hW.fact (p := (fun W => (Kd.int .i64).C W Ap plan.length plan)) (by repeat (first | exact memH | refine memT ?_))) hp hsp) ?_
      | refine Jl.call1 (v := .bool gj) rfl rfl rfl rfl en17 rfl (fun w hW => by with_reducible exact impl_AreJobs.calls k5 Aj1 cj1 jobs gj w (hW.fact (p := (fun W => Kd.C k51 W Aj1 jobs.length jobs)) (by repeat (first | exact memH | refine memT ?_))) hj1 hij) ?_
      | refine Jl.call1 (v := .bool gj) rfl rfl rfl rfl en15 rfl (fun w hW => by with_reducible exact spec_AreJobs.calls k6 Aj1 cj1 jobs gj w (hW.fact (p := (fun W => Kd.C k51 W Aj1 jobs.length jobs)) (by repeat (first | exact memH | refine memT ?_))) hj1 hsj) ?_
      | refine Jl.call1 (v := .tuple #[.int .i64 0, .bool false]) rfl rfl rfl rfl en31 rfl (fun w hW => by with_reducible exact impl_LateDays.calls k7 Aj1 cj1 jobs Am1 cm1 looms Ap cp plan 0 false w (hW.fact (p := (fun W => Kd.C k51 W Aj1 jobs.length jobs)) (by repeat (first | exact memH | refine memT ?_))) hj1 (hW.fact (p := (fun W => (Kd.int .i64).C W Am1 looms.length looms)) (by repeat (first | exact memH | refine memT ?_))) hm1 (hW.fact (p := (fun W => (Kd.int .i64).C W Ap plan.length plan)) (by repeat (first | exact memH | refine memT ?_))) hp hli) ?_
      | refine Jl.call1 (v := .tuple #[.int .i64 0, .bool false]) rfl rfl rfl rfl en30 rfl (fun w hW => by with_reducible exact spec_LateDays.calls k8 Aj1 cj1 jobs Am1 cm1 looms Ap cp plan 0 false w (hW.fact (p := (fun W => Kd.C k51 W Aj1 jobs.length jobs)) (by repeat (first | exact memH | refine memT ?_))) hj1 (hW.fact (p := (fun W => (Kd.int .i64).C W Am1 looms.length looms)) (by repeat (first | exact memH | refine memT ?_))) hm1 (hW.fact (p := (fun W => (Kd.int .i64).C W Ap plan.length plan)) (by repeat (first | exact memH | refine memT ?_))) hp hls) ?_
      | refine Jl.call1 (v := .tuple #[.int .i64 0, .bool false]) rfl rfl rfl rfl en33 rfl (fun w hW => by with_reducible exact impl_LastEnd.calls k9 Aj1 cj1 jobs Am1 cm1 looms Ap cp plan 0 false w (hW.fact (p := (fun W => Kd.C k51 W Aj1 jobs.length jobs)) (by repeat (first | exact memH | refine memT ?_))) hj1 (hW.fact (p := (fun W => (Kd.int .i64).C W Am1 looms.length looms)) (by repeat (first | exact memH | refine memT ?_))) hm1 (hW.fact (p := (fun W => (Kd.int .i64).C W Ap plan.length plan)) (by repeat (first | exact memH | refine memT ?_))) hp hei) ?_
      | refine Jl.call1 (v := .tuple #[.int .i64 0, .bool false]) rfl rfl rfl rfl en32 rfl (fun w hW => by with_reducible exact spec_LastEnd.calls k10 Aj1 cj1 jobs Am1 cm1 looms Ap cp plan 0 false w (hW.fact (p := (fun W => Kd.C k51 W Aj1 jobs.length jobs)) (by repeat (first | exact memH | refine memT ?_))) hj1 (hW.fact (p := (fun W => (Kd.int .i64).C W Am1 looms.length looms)) (by repeat (first | exact memH | refine memT ?_))) hm1 (hW.fact (p := (fun W => (Kd.int .i64).C W Ap plan.length plan)) (by repeat (first | exact memH | refine memT ?_))) hp hes) ?_
      | refine Jl.draw2 (fun v0 v1 => .tuple #[v0, v1]) jobs looms rfl rfl rfl rfl en46 rfl (fun w hW => by with_reducible exact spec_DrawBestLoomPlan.calls k2 A0 c0 l0 jobs looms w (hW.fact (p := (fun W => (Kd.int .u8).C W A0 l0.length l0)) (by repeat (first | exact memH | refine memT ?_))) hc0 hD2) (fun Aj2 cj2 Am2 cm2 hj2 hm2 => ?_)
      | refine Jl.draw1 (fun v => .tuple #[v, .bool kn]) B rfl rfl rfl rfl en44 rfl (fun w hW => by with_reducible exact impl_BestLoomPlan.calls  Aj2 cj2 jobs Am2 cm2 looms B kn w (hW.fact (p := (fun W => Kd.C k51 W Aj2 jobs.length jobs)) (by repeat (first | exact memH | refine memT ?_))) hj2 (hW.fact (p := (fun W => (Kd.int .i64).C W Am2 looms.length looms)) (by repeat (first | exact memH | refine memT ?_))) hm2 hib) (fun Ac cc hc => ?_)
      | refine Jl.draw1 (fun v => .tuple #[v, .bool kn]) B rfl rfl rfl rfl en43 rfl (fun w hW => by with_reducible exact spec_BestLoomPlan.calls k13 Aj2 cj2 jobs Am2 cm2 looms B kn w (hW.fact (p := (fun W => Kd.C k51 W Aj2 jobs.length jobs)) (by repeat (first | exact memH | refine memT ?_))) hj2 (hW.fact (p := (fun W => (Kd.int .i64).C W Am2 looms.length looms)) (by repeat (first | exact memH | refine memT ?_))) hm2 hsb) (fun Ad cd hd => ?_)
      | refine Jl.call1 (v := .bool true) rfl rfl rfl rfl en40 rfl (fun w hW => by with_reducible exact vI_ k14 Ac cc B Ad cd B true w (hW.fact (p := (fun W => (Kd.int .i64).C W Ac B.length B)) (by repeat (first | exact memH | refine memT ?_))) hc (hW.fact (p := (fun W => (Kd.int .i64).C W Ad B.length B)) (by repeat (first | exact memH | refine memT ?_))) hd hv1) ?_
      | refine Jl.draw1 (fun v => .tuple #[v, .bool kn]) NW rfl rfl rfl rfl en24 rfl (fun w hW => by with_reducible exact impl_NarrowestFor.calls k15 Aj2 cj2 jobs Am2 cm2 looms NW kn w (hW.fact (p := (fun W => Kd.C k51 W Aj2 jobs.length jobs)) (by repeat (first | exact memH | refine memT ?_))) hj2 (hW.fact (p := (fun W => (Kd.int .i64).C W Am2 looms.length looms)) (by repeat (first | exact memH | refine memT ?_))) hm2 hin) (fun An cn hn => ?_)
      | refine Jl.draw1 (fun v => .tuple #[v, .bool kn]) NW rfl rfl rfl rfl en23 rfl (fun w hW => by with_reducible exact spec_NarrowestFor.calls k16 Aj2 cj2 jobs Am2 cm2 looms NW kn w (hW.fact (p := (fun W => Kd.C k51 W Aj2 jobs.length jobs)) (by repeat (first | exact memH | refine memT ?_))) hj2 (hW.fact (p := (fun W => (Kd.int .i64).C W Am2 looms.length looms)) (by repeat (first | exact memH | refine memT ?_))) hm2 hsn) (fun Ao co ho => ?_)
      | refine Jl.call1 (v := .bool true) rfl rfl rfl rfl en40 rfl (fun w hW => by with_reducible exact vI_ k17 An cn NW Ao co NW true w (hW.fact (p := (fun W => (Kd.int .i64).C W An NW.length NW)) (by repeat (first | exact memH | refine memT ?_))) hn (hW.fact (p := (fun W => (Kd.int .i64).C W Ao NW.length NW)) (by repeat (first | exact memH | refine memT ?_))) ho hv2) ?_
      | refine Jl.call1 (v := .tuple #[.bool true, .bool true]) rfl rfl rfl rfl en21 rfl (fun w hW => by with_reducible exact impl_IsLoomPlan.calls k18 Aj2 cj2 jobs Am2 cm2 looms An cn NW true true w (hW.fact (p := (fun W => Kd.C k51 W Aj2 jobs.length jobs)) (by repeat (first | exact memH | refine memT ?_))) hj2 (hW.fact (p := (fun W => (Kd.int .i64).C W Am2 looms.length looms)) (by repeat (first | exact memH | refine memT ?_))) hm2 (hW.fact (p := (fun W => (Kd.int .i64).C W An NW.length NW)) (by repeat (first | exact memH | refine memT ?_))) hn (hz h)) ?_
      | refine Jl.splitG rfl rfl (fun h => ?_) (fun h => ?_))
    | (apply gateE; first
      | refine Jl.nil (Ej.go ?_ (fun _ _ h => h))
      | (refine Jl.nil (Ej.back (fun _ _ h => h) (by repeat (first | exact .refl | apply DropTo.tail)) ?_); repeat (first | exact trivial | refine ⟨rfl, ?_⟩)))
    | (apply gateC; first
      | refine Cj.ret rfl (Ej.out1 (P := Try.prog) (fn := Try.f13) (R := Rr) (fun _ _ h => h) rfl rfl (fun w' hW => ⟨rfl, hW.below⟩))
      | refine Cj.condF rfl rfl (Cj.skip rfl (Ej.go ?_ (fun _ _ h => h)))
      | (refine Cj.condF rfl rfl (Cj.skip rfl (Ej.back (fun _ _ h => h) (by repeat (first | exact .refl | apply DropTo.tail)) ?_)); repeat (first | exact trivial | refine ⟨rfl, ?_⟩))
      | refine Cj.condF rfl rfl ?_
      | refine Cj.condT rfl rfl ?_
      | refine Cj.exit rfl (Ej.go ?_ (fun _ _ h => h))
      | refine Cj.cond rfl rfl (fun h => ?_) (fun h => ?_)
      | refine Cj.skip rfl (Ej.go ?_ (fun _ _ h => h))
      | (refine Cj.skip rfl (Ej.back (fun _ _ h => h) (by repeat (first | exact .refl | apply DropTo.tail)) ?_); repeat (first | exact trivial | refine ⟨rfl, ?_⟩))
      | refine Cj.seq rfl ?_
      | refine Cj.region rfl ?_))
/-- No plan has fewer late days than the best one: for every code that is drawn from. -/
theorem FnLoomPlans_calls (l0 : List Int) (A0 : Option Addr) (c0 : Nat) (w : World) (hr0 : Kd.C (Kd.int .u8) w A0 l0.length l0) (hc0 : l0.length ≤ c0) (q0 : (l0.length ≤ maxLen ∧ ∀ x ∈ l0, (Lit.int .u8 x).wf = true)) : Calls Try.prog 13 #[.slice A0 l0.length c0] w fun e w' => e = .returned (.bool true) ∧ Below w.heap.size w w' := by
  by_cases hbig : (l0.length : Int) > 65536
  · exact walkB l0 A0 c0 w hr0 hc0 (by unfold laws_vBig.f; rw [decide_eq_true hbig])
  have hb0 : laws_vBig.f l0 = some false := by unfold laws_vBig.f; rw [decide_eq_false hbig]
  obtain ⟨l, m, p, ⟨l1, l2, l3⟩, hD, hB⟩ := drawPlans (code_of q0.2 (by omega))
  have hl : l.length ≤ 1048576 := by omega
  have hm : m.length ≤ 1048576 := by omega
  have hsJ : Ev (fun k => spec_AreJobs.f k l) (goodJ l) := by
    unfold spec_AreJobs.f
    exact Ev.bind (sJobs l hl) (Ev.now _)
  have hip := iIsPlan l m p hl hm
  have hsp := sIsPlan l m p hl hm
  obtain ⟨hls, hli⟩ := lateD l m p hl hm
  obtain ⟨hes, hei⟩ := lastD l m p hl hm
  rw [planRes_at] at hip hsp
  obtain ⟨q, ⟨h1, h2, h3⟩, g1, g2⟩ := narrowRes l m hl hm
  have hbl := bestRes_len l m
  obtain ⟨k1, e1⟩ := hD.rounds
  obtain ⟨k2, e2⟩ := hB.rounds
  obtain ⟨k3, e3⟩ := hip.rounds
  obtain ⟨k4, e4⟩ := hsp.rounds
  obtain ⟨k5, e5⟩ := (iJobs l hl).rounds
  obtain ⟨k6, e6⟩ := hsJ.rounds
  obtain ⟨k7, e7⟩ := hli.rounds
  obtain ⟨k8, e8⟩ := hls.rounds
  obtain ⟨k9, e9⟩ := hei.rounds
  obtain ⟨k10, e10⟩ := hes.rounds
  have e0 := iBestPlan l m hl hm
  obtain ⟨k13, e13⟩ := (sBestPlan l m hl hm).rounds
  obtain ⟨k14, e14⟩ := (vIntsE (bestRes l m).1 (by omega)).rounds
  obtain ⟨k15, e15⟩ := g2.rounds
  obtain ⟨k16, e16⟩ := g1.rounds
  obtain ⟨k17, e17⟩ := (vIntsE q.1 h1).rounds
  obtain ⟨k18, e18⟩ := (iIsPlan l m q.1 hl hm).rounds
  by_cases h : asked l m p = true
  · have hg : (goodJ l && goodL m) = true := by
      have h' := h
      unfold asked at h'
      rw [Bool.and_eq_true] at h'
      exact h'.1
    obtain ⟨b1, b2, b3, b4⟩ := best_at h
    obtain ⟨_, hlb⟩ := lateD l m (bestRes l m).1 hl hm
    obtain ⟨_, heb⟩ := lastD l m (bestRes l m).1 hl hm
    obtain ⟨k11, e11⟩ := hlb.rounds
    obtain ⟨k12, e12⟩ := heb.rounds
    unfold lateRes at e7 e8 e11
    unfold lastRes at e9 e10 e12
    rw [if_pos h] at e7 e8 e9 e10
    rw [if_pos b2] at e11 e12
    rw [h, hg] at e3 e4
    rw [h3 (h2.trans b1)] at e18
    have er : bestRes l m = ((bestRes l m).1, true) := Prod.ext rfl b1
    have eq' : q = (q.1, true) := Prod.ext rfl (h2.trans b1)
    rw [er] at e0 e13
    rw [eq'] at e15 e16
    by_cases he : lateP l m (bestRes l m).1 = lateP l m p
    · exact walkE l0 A0 c0 w hr0 hc0 hb0 l m p (bestRes l m).1 q.1 (goodJ l) k1 k2 k3 k4 k5 k6 k7 k8 k9 k10 k11 k12 k13 k14 k15 k16 k17 k18 e1 e2 e5 e6 e14 e17 _ _ _ _ e3 e4 e7 e8 e9 e10 e0 e13 e15 e16 e11 e12 e18 he (b4 he)
    · exact walkL l0 A0 c0 w hr0 hc0 hb0 l m p (bestRes l m).1 q.1 (goodJ l) k1 k2 k3 k4 k5 k6 k7 k8 k9 k10 k11 k12 k13 k14 k15 k16 k17 k18 e1 e2 e5 e6 e14 e17 _ _ _ _ e3 e4 e7 e8 e9 e10 e0 e13 e15 e16 e11 e12 e18 (by omega)
  · have hf : asked l m p = false := by simpa using h
    unfold lateRes at e7 e8
    unfold lastRes at e9 e10
    rw [if_neg h] at e7 e8 e9 e10
    rw [hf] at e3 e4
    have er : bestRes l m = ((bestRes l m).1, (bestRes l m).2) := rfl
    have eq' : q = (q.1, (bestRes l m).2) := Prod.ext rfl h2
    rw [eq'] at e15 e16
    exact walkN l0 A0 c0 w hr0 hc0 hb0 l m p (bestRes l m).1 q.1 (goodJ l) k1 k2 k3 k4 k5 k6 k7 k8 k9 k10 0 0 k13 k14 k15 k16 k17 k18 e1 e2 e5 e6 e14 e17 _ _ e3 e4 e7 e8 e9 e10 e0 e13 e15 e16 (fun hk => by rw [h3 (h2.trans hk)] at e18; exact e18)
end LP
end Go.Proofs.Ytcgpibbbkdhpeaa.WK

namespace Go.Proofs.Ytcgpibbbkdhpeaa.fnLoomPlans
open Go.ChangeShapes Go.WideShapes Go.ChangeAt Go.RowKit Go.Proofs.Ytcgpibbbkdhpeaa.Q Go.Proofs.YtcgpibbbkdhpeaaW.Open Go.Proofs.YtcgpibbbkdhpeaaW.PrintWords
set_option linter.unusedVariables false
theorem own : ownKnob Try.prog.godebug = none := by kernel_rfl
theorem laidOut : laidOutB Try.prog = true := by kernel_rfl
set_option maxRecDepth 100000 in
theorem lifted (os : Os) (started : os.Started) (H : Type) (enc : TypeId × Value → H) :
    ReturnsInHanded {} Try.checked os 13 .any (Rows.fnLoomPlansSpec.pre6 enc Try.prog Try.f13 Rows.fnLoomPlansRow.domain false) (Rows.fnLoomPlansSpec.post enc Try.prog Try.f13 false true false false) := by
  refine returnsInHanded_of_change_sized (C := Try.checked) own started (by kernel_rfl) Try.func13
    (ChangeSpec.witness6 (enc := enc) (C := Try.checked) false ⟨#[], #[.slice none 0 0], []⟩ 8 (by kernel_rfl) (by kernel_rfl) (by kernel_rfl) (by kernel_rfl)) ?_
  intro W base args ds gs before hval0 hW hcnd hsz0 _
  have hval : ∀ (j : Nat) t v, Try.f13.params[j]? = some t → args[j]? = some v → Value.okWide Try.prog W .any base t v := hval0
  have hW' := hW
  obtain ⟨p, q, hA0, hV, rfl, hfz, hnd⟩ := hW
  have hA : DataW.TrodAll enc Try.prog W 0 (fun _ => true) true Try.f13.params.toList args.toList ds p := hA0
  rw [Try.params13] at hA hval
  obtain ⟨v0, vs0, d0, ds0, p0, q0, hargs, rfl, rfl, h0, r0⟩ := trodAll_cons hA
  obtain ⟨rfl, rfl, rfl⟩ := trodAll_nil r0
  obtain rfl : args = #[v0] := by cases args; simp_all
  obtain ⟨rfl, rfl⟩ := trodVars_none hV
  have k0 := h0
  have lt0 : ∀ x ∈ p0, x.block < W.heap.size := by obtain ⟨m, hm⟩ := k0; exact DataW.trod_lt m _ _ _ hm
  obtain ⟨a0, len0, cap0, rfl⟩ := okWide_slice Try.underlying46 (hval 0 46 v0 rfl rfl)
  obtain ⟨fu0, hf0⟩ := h0
  obtain ⟨x0, ⟨A0, c0, hk0, hc0, hr0⟩, q0⟩ := ((Opn.slice Try.underlying46 (n0 := 1) (by kernel_rfl) rfl (Opn.int Try.underlying5))).out hf0
  simp [Value.cells] at hk0
  obtain ⟨rfl, rfl, rfl⟩ := hk0
  refine (Go.Proofs.Ytcgpibbbkdhpeaa.WK.LP.FnLoomPlans_calls x0 _ _ W hr0 hc0 q0).mono fun e W' ⟨he, bel⟩ => ?_
  subst he
  exact ⟨_, rfl, _, _, _, [], _, [], hW', trodAll_mk1 (shut_bool Try.underlying4 _), (trodAll_cons_mk (Below.trod laidOut (by kernel_rfl) (of_decide_eq_true (by kernel_rfl)) k0 bel lt0) trodAll_mk0), rfl, bel.frame _, fun h => by cases h⟩
theorem over : Rows.fnLoomPlansRow.holds Try.pinned (OpenSpec.ofChange Rows.fnLoomPlansSpec) :=
  OpenClaim.holds_of_wide 13 Try.f13 rfl rfl rfl rfl rfl rfl rfl ⟨rfl, rfl, rfl, rfl, rfl⟩ rfl rfl rfl rfl rfl (by kernel_rfl) Try.func13 (by kernel_rfl)
    (of_decide_eq_true (by kernel_rfl)) (by unfold Func.isWrapper; first | (rw [if_pos (by decide +kernel)]; kernel_rfl) | (rw [if_neg (by decide +kernel)]; exact ⟨rfl, rfl⟩))
    (fun os started H enc _ => lifted os started H enc)
theorem proved : Rows.FnLoomPlansSaid := over
end Go.Proofs.Ytcgpibbbkdhpeaa.fnLoomPlans
namespace Go.Proofs.Ytcgpibbbkdhpeaa
/-- The row, under a short name, for the claim. -/
theorem fnLoomPlans_holds : Rows.FnLoomPlansSaid := fnLoomPlans.proved
end Go.Proofs.Ytcgpibbbkdhpeaa

#print axioms Go.Proofs.Ytcgpibbbkdhpeaa.fnLoomPlans_holds
