import Derived.KernelRfl
import Derived.Test.YtkglpfdoefdhdaaZFnExactFewestRepairs5
namespace Go.Proofs.Ytkglpfdoefdhdaa.Q
open Go.RowKit Go.Proofs.YtkglpfdoefdhdaaW.PrintWords Go.Proofs.YtkglpfdoefdhdaaW.PrintLast Go.Proofs.YtkglpfdoefdhdaaW.PrintMore
attribute [local go_sem] max2_int min2_int max_two min_two max_three min_three max_four min_four
set_option linter.unusedVariables false
set_option linter.unusedSimpArgs false

/-! ### impl_AreFlaws: function 81 -/
mutual
def impl_AreFlaws.j0 : Nat → List (S35) → Bool → Option (Bool)
 | 0, _, _ => none
 | k + 1, x1, x20 => if x20 = true then (some false) else (impl_AreFlaws.l0 k x1 1)
def impl_AreFlaws.l0 : Nat → List (S35) → Int → Option (Bool)
 | 0, _, _ => none
 | k + 1, x1, x5 => if x5 < (x1.length : Int) then (if 0 ≤ (wrap64 (x5 - 1)) then (if (wrap64 (x5 - 1)) < (x1.length : Int) then (if 0 ≤ x5 then ((impl_Flaw_compare.f k ((rd_T35 x1 (wrap64 (x5 - 1))).f0) ((rd_T35 x1 (wrap64 (x5 - 1))).f1) ((rd_T35 x1 (wrap64 (x5 - 1))).f2) ((rd_T35 x1 (wrap64 (x5 - 1))).f3) ((rd_T35 x1 x5).f0) ((rd_T35 x1 x5).f1) ((rd_T35 x1 x5).f2) ((rd_T35 x1 x5).f3)).bind fun t731 => (if t731 ≥ 0 then (some false) else (impl_AreFlaws.l0 k x1 (wrap64 (x5 + 1))))) else (none)) else (none)) else (none)) else (some true)
end
def impl_AreFlaws.f (k : Nat) (a0_0 : Int) (a0_1 : Int) (l0_2 : List Int) (l1 : List (S35)) : Option (Bool) := (impl_IsChart.f a0_0 a0_1 l0_2).bind fun t727 => (if t727 = true then (if (l1.length : Int) > 12 then (impl_AreFlaws.j0 k l1 true) else ((impl_Flaw_138__impl_Chart_isFlaw.f l1 a0_0 a0_1 l0_2).bind fun t728 => (impl_AreFlaws.j0 k l1 (!t728)))) else (impl_AreFlaws.j0 k l1 true))
def impl_AreFlaws.T6 : Bool × List (List Nat × List Nat) := (true, [([], []), ([], []), ([1], [1]), ([0, 2], [0, 2]), ([3], [3]), ([], []), ([], []), ([5, 6], [5, 6]), ([7], [7]), ([4, 8], [4, 8]), ([9], [9])])
def impl_AreFlaws.B6 : List Nat := [0, 0, 2, 7, 15, 0, 0, 96, 224, 511, 1023]
theorem impl_AreFlaws.tab6 : rtab .any (opsOf Try.f81 6) = impl_AreFlaws.T6 := by kernel_rfl
theorem impl_AreFlaws.bits6 : waitsOk impl_AreFlaws.T6.2 impl_AreFlaws.B6 = true := by kernel_rfl
set_option maxHeartbeats 8000000 in
set_option maxRecDepth 100000 in
theorem impl_AreFlaws.calls (k : Nat) (a0_0 : Int) (a0_1 : Int) (A0_2 : Option Addr) (c0_2 : Nat) (l0_2 : List Int) (A1 : Option Addr) (c1 : Nat) (l1 : List (S35)) (r : Bool) (w : World) (hr0_2 : Kd.C (Kd.int .i64) w A0_2 l0_2.length l0_2) (hc0_2 : l0_2.length ≤ c0_2) (hr1 : Kd.C k35 w A1 l1.length l1) (hc1 : l1.length ≤ c1) (h : impl_AreFlaws.f k a0_0 a0_1 l0_2 l1 = some r) :
  Calls Try.prog 81 #[.agg #[.int .i64 a0_0, .int .i64 a0_1, .slice A0_2 l0_2.length c0_2], .slice A1 l1.length c1] w fun e w' => e = .returned (.bool r) ∧ Below w.heap.size w w' := by
 have hu26 := Try.underlying26
 have hu35 := Try.underlying35
 have HR0_2 := Aside0.mk hr0_2
 have HC0_2 := Aside0.mk hc0_2
 clear hr0_2 hc0_2
 have HR1 := Aside0.mk hr1
 have HC1 := Aside0.mk hc1
 clear hr1 hc1
 have HB := Aside0.mk (Below.refl w.heap.size w)
 have H : ((impl_IsChart.f a0_0 a0_1 l0_2).bind fun t727 => (if t727 = true then (if (l1.length : Int) > 12 then (impl_AreFlaws.j0 k l1 true) else ((impl_Flaw_138__impl_Chart_isFlaw.f l1 a0_0 a0_1 l0_2).bind fun t728 => (impl_AreFlaws.j0 k l1 (!t728)))) else (impl_AreFlaws.j0 k l1 true))) = some r := h
 clear h
 have HC3 := Aside0.mk H
 clear H
 go_enter Try.func81, Try.ntmps81
 go_upto_region 1 with (first | ((with_reducible refine gate_dst (N := 2) rfl ?_); (try (refine gate_guard (by rfl) ?_; dsimp only)); refine box_event ?hg (N := 2) ?hd (cs := #[.int .i64 a0_0, .int .i64 a0_1, .slice A0_2 l0_2.length c0_2]) (t := 26) ?hr ?_; (case hd => rfl); (case hg => rfl); (case hr => first | (go_simp; done) | (go_simp; rfl)); intro gb726 hg w4 hbox hb; have n0_ := Aside0.mk (below_step (by repeat (first | (with_reducible first | exact HB.out | apply below_alloc | apply pw_below_drewN | apply below_drew1) | exact HB.out)) hb); have n1_ := Aside0.mk (hbox); have n2_ := Aside0.mk ((by rw [hg]; exact (below_size (by repeat (first | (with_reducible first | exact HB.out | apply below_alloc | apply pw_below_drewN | apply below_drew1) | exact HB.out))) : w.heap.size ≤ gb726)); have n3_ := Aside0.mk ((by rw [hg]; exact (below_size (by repeat (first | (with_reducible first | exact HB.out | apply below_alloc | apply pw_below_drewN | apply below_drew1) | exact HB.out))) : w.heap.size ≤ gb726)); clear HB; have HB := n0_; have BK726 := n1_; have GW726 := n2_; have GE726 := n3_; clear n0_ n1_ n2_ n3_; clear hb hbox hg))
 (try simp only [Act.put, List.setIfInBounds_toArray, List.set_cons_zero, List.set_cons_succ])
 go_cut [20] (fun v20 wc => ∃ (kq : Nat) (x20_2 : Bool), v20 = .bool x20_2 ∧ Aside0 (impl_AreFlaws.j0 kq l1 x20_2 = some r) ∧ Aside0 (kq ≤ k) ∧ Aside0 (wc.heap[gb726]? = some (.cells #[.int .i64 a0_0, .int .i64 a0_1, (.slice A0_2 l0_2.length c0_2)] 26 (0, 0))) ∧ Aside0 (Below w.heap.size w wc))
 case first =>
  have H := HC3.out
  clear HC3
  replace H := Option.bind_eq_some_iff.mp H
  obtain ⟨t727, A50, H⟩ := H
  have A5 := Aside0.mk A50
  clear A50
  by_cases c6 : t727 = true
  ·subst c6
   rw [if_pos rfl] at H
   by_cases c7 : (l1.length : Int) > 12
   ·rw [if_pos c7] at H
    have c7b0 : decide (12 < (l1.length : Int)) = true := decide_eq_true c7
    have c7b1 : decide (12 < l1.length) = true := decide_eq_true (by omega)
    clear c7
    (first | rw [c7b0] | (simp only [i64_w, i32_w]; rw [c7b0]) | skip)
    have H' := Aside0.mk H
    clear H
    have hcz8_0 : w4.cell? ⟨gb726, 0, none⟩ = some (.int .i64 a0_0) := (blk_cell BK726.out 0).trans rfl
    have hcz8_1 : w4.cell? ⟨gb726, 1, none⟩ = some (.int .i64 a0_1) := (blk_cell BK726.out 1).trans rfl
    have hcz8_2 : w4.cell? ⟨gb726, 2, none⟩ = some (.slice A0_2 l0_2.length c0_2) := (blk_cell BK726.out 2).trans rfl
    have hfz8_0 := blk_frozen BK726.out 0
    have hfz8_1 := blk_frozen BK726.out 1
    have hfz8_2 := blk_frozen BK726.out 2
    go_wp2_with (first | ((with_reducible refine gate_callee (f := 104) rfl ?_); refine goesL_ (some 7) rfl rfl Try.func104 (by kernel_rfl) rfl #[.agg #[.int .i64 a0_0, .int .i64 a0_1, .slice A0_2 l0_2.length c0_2]] rfl (by (try simp only [List.map_toArray, List.map_cons, List.map_nil]); first | done | rfl | (simp only [List.length_drop, List.length_take]; rfl)) ?_; (with_reducible refine (impl_IsChart.calls a0_0 a0_1 _ _ l0_2 true _ ?side1 ?side2 A5.out).mono ?_); (case side1 => repeat (first | exact (Kd.C_below HR0_2.out HB.out) | (with_reducible refine Kd.C_alloc ?_ _) | (with_reducible refine Kd.C_drewN ?_ _) | (with_reducible refine Kd.C_drew ?_))); (case side2 => exact HC0_2.out); rintro e w9 ⟨rfl, hb⟩; refine ⟨_, rfl, ?_⟩; have n0_ := Aside0.mk (blk_below (g := gb726) (o := .cells #[.int .i64 a0_0, .int .i64 a0_1, .slice A0_2 l0_2.length c0_2] 26 (0, 0)) (by (with_reducible repeat (first | refine blk_drewN ?_ _ | refine blk_drew ?_ | refine blk_alloc ?_ _)); exact BK726.out) hb); have n1_ := Aside0.mk (below_step (by repeat (first | (with_reducible first | exact HB.out | apply below_alloc | apply pw_below_drewN | apply below_drew1 | refine below_set ?_ GE726.out) | exact HB.out)) hb); clear BK726; clear HB; have BK726 := n0_; have HB := n1_; clear n0_ n1_; (try clear hb); (try clear hb2); (try clear hk); (try clear hi)))
    go_meet
    case rel => exact ⟨_, (true), (by first | rfl | (simp; done) | (simp [*]; done)), H', ⟨by first | omega | exact Nat.le_refl _⟩, ⟨by (with_reducible repeat (first | refine blk_drewN ?_ _ | refine blk_drew ?_ | refine blk_alloc ?_ _)); exact BK726.out⟩, ⟨by repeat (first | (with_reducible first | exact HB.out | apply below_alloc | apply pw_below_drewN | apply below_drew1 | refine below_set ?_ GE726.out) | exact HB.out)⟩⟩
   ·rw [if_neg c7] at H
    have c7b0 : decide (12 < (l1.length : Int)) = false := decide_eq_false c7
    have c7b1 : decide (12 < l1.length) = false := decide_eq_false (by omega)
    clear c7
    (first | rw [c7b0] | (simp only [i64_w, i32_w]; rw [c7b0]) | skip)
    replace H := Option.bind_eq_some_iff.mp H
    obtain ⟨t728, A100, H⟩ := H
    have A10 := Aside0.mk A100
    clear A100
    have H' := Aside0.mk H
    clear H
    have hcz11_0 : w4.cell? ⟨gb726, 0, none⟩ = some (.int .i64 a0_0) := (blk_cell BK726.out 0).trans rfl
    have hcz11_1 : w4.cell? ⟨gb726, 1, none⟩ = some (.int .i64 a0_1) := (blk_cell BK726.out 1).trans rfl
    have hcz11_2 : w4.cell? ⟨gb726, 2, none⟩ = some (.slice A0_2 l0_2.length c0_2) := (blk_cell BK726.out 2).trans rfl
    have hfz11_0 := blk_frozen BK726.out 0
    have hfz11_1 := blk_frozen BK726.out 1
    have hfz11_2 := blk_frozen BK726.out 2
    go_wp2_with (first | ((with_reducible refine gate_callee (f := 104) rfl ?_); refine goesL_ (some 7) rfl rfl Try.func104 (by kernel_rfl) rfl #[.agg #[.int .i64 a0_0, .int .i64 a0_1, .slice A0_2 l0_2.length c0_2]] rfl (by (try simp only [List.map_toArray, List.map_cons, List.map_nil]); first | done | rfl | (simp only [List.length_drop, List.length_take]; rfl)) ?_; (with_reducible refine (impl_IsChart.calls a0_0 a0_1 _ _ l0_2 true _ ?side1 ?side2 A5.out).mono ?_); (case side1 => repeat (first | exact (Kd.C_below HR0_2.out HB.out) | (with_reducible refine Kd.C_alloc ?_ _) | (with_reducible refine Kd.C_drewN ?_ _) | (with_reducible refine Kd.C_drew ?_))); (case side2 => exact HC0_2.out); rintro e w12 ⟨rfl, hb⟩; refine ⟨_, rfl, ?_⟩; have n0_ := Aside0.mk (blk_below (g := gb726) (o := .cells #[.int .i64 a0_0, .int .i64 a0_1, .slice A0_2 l0_2.length c0_2] 26 (0, 0)) (by (with_reducible repeat (first | refine blk_drewN ?_ _ | refine blk_drew ?_ | refine blk_alloc ?_ _)); exact BK726.out) hb); have n1_ := Aside0.mk (below_step (by repeat (first | (with_reducible first | exact HB.out | apply below_alloc | apply pw_below_drewN | apply below_drew1 | refine below_set ?_ GE726.out) | exact HB.out)) hb); clear BK726; clear HB; have BK726 := n0_; have HB := n1_; clear n0_ n1_; (try clear hb); (try clear hb2); (try clear hk); (try clear hi); have hcz13_0 : w12.cell? ⟨gb726, 0, none⟩ = some (.int .i64 a0_0) := (blk_cell BK726.out 0).trans rfl; have hcz13_1 : w12.cell? ⟨gb726, 1, none⟩ = some (.int .i64 a0_1) := (blk_cell BK726.out 1).trans rfl; have hcz13_2 : w12.cell? ⟨gb726, 2, none⟩ = some (.slice A0_2 l0_2.length c0_2) := (blk_cell BK726.out 2).trans rfl; have hfz13_0 := blk_frozen BK726.out 0; have hfz13_1 := blk_frozen BK726.out 1; have hfz13_2 := blk_frozen BK726.out 2) | (go_at_call 138; (with_reducible refine (impl_Flaw_138__impl_Chart_isFlaw.calls _ _ l1 a0_0 a0_1 _ _ l0_2 t728 _ ?side1 ?side2 ?side3 ?side4 A10.out).mono ?_); (case side1 => repeat (first | exact (Kd.C_below HR1.out HB.out) | (with_reducible refine Kd.C_alloc ?_ _) | (with_reducible refine Kd.C_drewN ?_ _) | (with_reducible refine Kd.C_drew ?_))); (case side2 => exact HC1.out); (case side3 => repeat (first | exact (Kd.C_below HR0_2.out HB.out) | (with_reducible refine Kd.C_alloc ?_ _) | (with_reducible refine Kd.C_drewN ?_ _) | (with_reducible refine Kd.C_drew ?_))); (case side4 => exact HC0_2.out); rintro e w14 ⟨rfl, hb⟩; have n0_ := Aside0.mk (blk_below (g := gb726) (o := .cells #[.int .i64 a0_0, .int .i64 a0_1, .slice A0_2 l0_2.length c0_2] 26 (0, 0)) (by (with_reducible repeat (first | refine blk_drewN ?_ _ | refine blk_drew ?_ | refine blk_alloc ?_ _)); exact BK726.out) hb); have n1_ := Aside0.mk (below_step (by repeat (first | (with_reducible first | exact HB.out | apply below_alloc | apply pw_below_drewN | apply below_drew1 | refine below_set ?_ GE726.out) | exact HB.out)) hb); clear BK726; clear HB; have BK726 := n0_; have HB := n1_; clear n0_ n1_; (try clear hb); (try clear hb2); (try clear hk); (try clear hi)))
    go_meet
    case rel => exact ⟨_, (!t728), (by first | rfl | (simp; done) | (simp [*]; done)), H', ⟨by first | omega | exact Nat.le_refl _⟩, ⟨by (with_reducible repeat (first | refine blk_drewN ?_ _ | refine blk_drew ?_ | refine blk_alloc ?_ _)); exact BK726.out⟩, ⟨by repeat (first | (with_reducible first | exact HB.out | apply below_alloc | apply pw_below_drewN | apply below_drew1 | refine below_set ?_ GE726.out) | exact HB.out)⟩⟩
  ·replace c6 := Bool.eq_false_iff.mpr c6
   subst c6
   rw [if_neg (show ¬ (false = true) by decide)] at H
   have H' := Aside0.mk H
   clear H
   have hcz15_0 : w4.cell? ⟨gb726, 0, none⟩ = some (.int .i64 a0_0) := (blk_cell BK726.out 0).trans rfl
   have hcz15_1 : w4.cell? ⟨gb726, 1, none⟩ = some (.int .i64 a0_1) := (blk_cell BK726.out 1).trans rfl
   have hcz15_2 : w4.cell? ⟨gb726, 2, none⟩ = some (.slice A0_2 l0_2.length c0_2) := (blk_cell BK726.out 2).trans rfl
   have hfz15_0 := blk_frozen BK726.out 0
   have hfz15_1 := blk_frozen BK726.out 1
   have hfz15_2 := blk_frozen BK726.out 2
   go_wp2_with (first | ((with_reducible refine gate_callee (f := 104) rfl ?_); refine goesL_ (some 7) rfl rfl Try.func104 (by kernel_rfl) rfl #[.agg #[.int .i64 a0_0, .int .i64 a0_1, .slice A0_2 l0_2.length c0_2]] rfl (by (try simp only [List.map_toArray, List.map_cons, List.map_nil]); first | done | rfl | (simp only [List.length_drop, List.length_take]; rfl)) ?_; (with_reducible refine (impl_IsChart.calls a0_0 a0_1 _ _ l0_2 false _ ?side1 ?side2 A5.out).mono ?_); (case side1 => repeat (first | exact (Kd.C_below HR0_2.out HB.out) | (with_reducible refine Kd.C_alloc ?_ _) | (with_reducible refine Kd.C_drewN ?_ _) | (with_reducible refine Kd.C_drew ?_))); (case side2 => exact HC0_2.out); rintro e w16 ⟨rfl, hb⟩; refine ⟨_, rfl, ?_⟩; have n0_ := Aside0.mk (blk_below (g := gb726) (o := .cells #[.int .i64 a0_0, .int .i64 a0_1, .slice A0_2 l0_2.length c0_2] 26 (0, 0)) (by (with_reducible repeat (first | refine blk_drewN ?_ _ | refine blk_drew ?_ | refine blk_alloc ?_ _)); exact BK726.out) hb); have n1_ := Aside0.mk (below_step (by repeat (first | (with_reducible first | exact HB.out | apply below_alloc | apply pw_below_drewN | apply below_drew1 | refine below_set ?_ GE726.out) | exact HB.out)) hb); clear BK726; clear HB; have BK726 := n0_; have HB := n1_; clear n0_ n1_; (try clear hb); (try clear hb2); (try clear hk); (try clear hi)))
   go_meet
   case rel => exact ⟨_, (true), (by first | rfl | (simp; done) | (simp [*]; done)), H', ⟨by first | omega | exact Nat.le_refl _⟩, ⟨by (with_reducible repeat (first | refine blk_drewN ?_ _ | refine blk_drew ?_ | refine blk_alloc ?_ _)); exact BK726.out⟩, ⟨by repeat (first | (with_reducible first | exact HB.out | apply below_alloc | apply pw_below_drewN | apply below_drew1 | refine below_set ?_ GE726.out) | exact HB.out)⟩⟩
 case rest =>
  clear HC3
  try clear c1
  try clear p2
  try clear c6
  try clear c7
  try clear c7b0
  try clear c7b1
  try clear c8
  try clear c10
  try clear hcz11_0
  try clear hcz11_1
  try clear hcz11_2
  try clear hcz13_0
  try clear hcz13_1
  try clear hcz13_2
  try clear hcz15_0
  try clear hcz15_1
  try clear hcz15_2
  try clear hcz8_0
  try clear hcz8_1
  try clear hcz8_2
  try clear hfz11_0
  try clear hfz11_1
  try clear hfz11_2
  try clear hfz13_0
  try clear hfz13_1
  try clear hfz13_2
  try clear hfz15_0
  try clear hfz15_1
  try clear hfz15_2
  try clear hfz8_0
  try clear hfz8_1
  try clear hfz8_2
  obtain ⟨kq, x20_2, rfl, HA, HJ2, BK726, HB⟩ := hcut
  cases kq with
  | zero => exact absurd HA.out (by simp [impl_AreFlaws.j0])
  | succ kj2 =>
   have H := HA.out
   clear HA
   simp only [impl_AreFlaws.j0] at H
   by_cases c17 : x20_2 = true
   ·subst c17
    rw [if_pos rfl] at H
    obtain rfl := Option.some.inj H
    go_wp2
    go_ret
    exact ⟨by first | rfl | (simp [errW_none, errW_some] <;> rfl) | (simp [*, errW_none, errW_some] <;> rfl) | (simp [wrap64]; done), by repeat (first | (with_reducible first | exact HB.out | apply below_alloc | apply pw_below_drewN | apply below_drew1 | refine below_set ?_ GE726.out) | exact HB.out)⟩
   ·replace c17 := Bool.eq_false_iff.mpr c17
    subst c17
    rw [if_neg (show ¬ (false = true) by decide)] at H
    have H' := Aside0.mk H
    clear H
    go_wp2
    go_loopg [5] kj2 (fun kq v5 w' => ∃ (x5_2 : Int), v5 = .int .i64 x5_2 ∧ Aside0 (impl_AreFlaws.l0 kq l1 x5_2 = some r) ∧ Aside0 (kq ≤ kj2) ∧ Aside0 (w'.heap[gb726]? = some (.cells #[.int .i64 a0_0, .int .i64 a0_1, (.slice A0_2 l0_2.length c0_2)] 26 (0, 0))) ∧ Aside0 (Below w.heap.size w w'))
    case atStart => exact ⟨(1), (by first | rfl | (simp; done) | (simp [*]; done)), H', ⟨Nat.le_refl _⟩, ⟨by (with_reducible repeat (first | refine blk_drewN ?_ _ | refine blk_drew ?_ | refine blk_alloc ?_ _)); exact BK726.out⟩, ⟨by repeat (first | (with_reducible first | exact HB.out | apply below_alloc | apply pw_below_drewN | apply below_drew1 | refine below_set ?_ GE726.out) | exact HB.out)⟩⟩
    case round =>
     clear H'
     try clear c1
     try clear p2
     try clear c6
     try clear p6
     try clear c7
     try clear c7b0
     try clear c7b1
     try clear c8
     try clear c10
     try clear c17
     try clear hcz11_0
     try clear hcz11_1
     try clear hcz11_2
     try clear hcz13_0
     try clear hcz13_1
     try clear hcz13_2
     try clear hcz15_0
     try clear hcz15_1
     try clear hcz15_2
     try clear hcz8_0
     try clear hcz8_1
     try clear hcz8_2
     try clear hfz11_0
     try clear hfz11_1
     try clear hfz11_2
     try clear hfz13_0
     try clear hfz13_1
     try clear hfz13_2
     try clear hfz15_0
     try clear hfz15_1
     try clear hfz15_2
     try clear hfz8_0
     try clear hfz8_1
     try clear hfz8_2
     try clear p2
     obtain ⟨x5_2, rfl, HA, HK2, BK726, HB⟩ := hrel
     cases gk with
     | zero => exact absurd HA.out (by simp [impl_AreFlaws.l0])
     | succ k2 =>
      have H := HA.out
      clear HA
      simp only [impl_AreFlaws.l0] at H
      by_cases c18 : x5_2 < (l1.length : Int)
      ·rw [if_pos c18] at H
       have c18b0 : decide (x5_2 < (l1.length : Int)) = true := decide_eq_true c18
       clear c18
       obtain ⟨ji19, hji19⟩ : ∃ j_ : Int, (wrap64 (x5_2 - 1)) = j_ := ⟨_, rfl⟩
       replace H : (if 0 ≤ (ji19) then (if (ji19) < (l1.length : Int) then (if 0 ≤ x5_2 then ((impl_Flaw_compare.f k2 ((rd_T35 l1 (ji19)).f0) ((rd_T35 l1 (ji19)).f1) ((rd_T35 l1 (ji19)).f2) ((rd_T35 l1 (ji19)).f3) ((rd_T35 l1 x5_2).f0) ((rd_T35 l1 x5_2).f1) ((rd_T35 l1 x5_2).f2) ((rd_T35 l1 x5_2).f3)).bind fun t731 => (if t731 ≥ 0 then (some false) else (impl_AreFlaws.l0 k2 l1 (wrap64 (x5_2 + 1))))) else (none)) else (none)) else (none)) = some r := by first | (rw [hji19] at H; exact H) | (simp only [hji19] at H ⊢; exact H)
       have hji19w : (IntKind.i64.wrap (x5_2 - 1)) = ji19 := (i64_w _).trans hji19
       by_cases c20 : 0 ≤ (ji19)
       ·rw [if_pos c20] at H
        have c20b0 : decide (0 ≤ (ji19)) = true := decide_eq_true c20
        clear c20
        by_cases c21 : (ji19) < (l1.length : Int)
        ·rw [if_pos c21] at H
         have c21b0 : decide ((ji19) < (l1.length : Int)) = true := decide_eq_true c21
         clear c21
         by_cases c22 : 0 ≤ x5_2
         ·rw [if_pos c22] at H
          have c22b0 : decide (0 ≤ x5_2) = true := decide_eq_true c22
          clear c22
          replace H := Option.bind_eq_some_iff.mp H
          obtain ⟨t731, A230, H⟩ := H
          have A23 := Aside0.mk A230
          clear A230
          by_cases c24 : t731 ≥ 0
          ·rw [if_pos c24] at H
           have c24b0 : decide (0 ≤ t731) = true := decide_eq_true c24
           clear c24
           obtain rfl := Option.some.inj H
           try go_wp2
           have n0_ := Aside0.mk (blk_drew BK726.out)
           have n1_ := Aside0.mk (below_drew1 HB.out)
           clear BK726
           clear HB
           have BK726 := n0_
           have HB := n1_
           clear n0_ n1_
           have p729 : 0 ≤ ((ji19) : Int) := of_decide_eq_true (by first | (with_reducible assumption) | assumption)
           have q729 : (ji19) < (l1.length : Int) := of_decide_eq_true (by first | (with_reducible assumption) | assumption)
           obtain ⟨ad729, e729, hx729_0, hx729_1, hx729_2, hx729_3⟩ := at_T35 HR1.out (ji19) p729 q729
           have hw729_3 := hx729_3
           have hw729_2 := hx729_2
           have hw729_1 := hx729_1
           have hw729_0 := hx729_0
           cases e729
           replace hx729_0 := (HB.out.cell (World.block_lt_of_cell? w _ hx729_0)).trans hx729_0
           replace hx729_1 := (HB.out.cell (World.block_lt_of_cell? w _ hx729_1)).trans hx729_1
           replace hx729_2 := (HB.out.cell (World.block_lt_of_cell? w _ hx729_2)).trans hx729_2
           replace hx729_3 := (HB.out.cell (World.block_lt_of_cell? w _ hx729_3)).trans hx729_3
           replace p729 := eq_true p729
           replace q729 := eq_true q729
           have p730 : 0 ≤ (x5_2 : Int) := of_decide_eq_true (by first | (with_reducible assumption) | assumption)
           have q730 : x5_2 < (l1.length : Int) := of_decide_eq_true (by first | (with_reducible assumption) | assumption)
           obtain ⟨ad730, e730, hx730_0, hx730_1, hx730_2, hx730_3⟩ := at_T35 HR1.out x5_2 p730 q730
           have hw730_3 := hx730_3
           have hw730_2 := hx730_2
           have hw730_1 := hx730_1
           have hw730_0 := hx730_0
           obtain rfl : ad729 = ad730 := (by injection e730)
           replace hx730_0 := (HB.out.cell (World.block_lt_of_cell? w _ hx730_0)).trans hx730_0
           replace hx730_1 := (HB.out.cell (World.block_lt_of_cell? w _ hx730_1)).trans hx730_1
           replace hx730_2 := (HB.out.cell (World.block_lt_of_cell? w _ hx730_2)).trans hx730_2
           replace hx730_3 := (HB.out.cell (World.block_lt_of_cell? w _ hx730_3)).trans hx730_3
           replace p730 := eq_true p730
           replace q730 := eq_true q730
           refine start_ (n := 11) (S := fun w' => w'.cell? (ad729.add (((ji19)).toNat * 4)) = some (.int .i64 ((rd_T35 l1 (ji19)).f0)) ∧ w'.cell? ⟨(ad729.add (((ji19)).toNat * 4)).block, (ad729.add (((ji19)).toNat * 4)).off + 1, none⟩ = some (.int .i64 ((rd_T35 l1 (ji19)).f1)) ∧ w'.cell? ⟨(ad729.add (((ji19)).toNat * 4)).block, (ad729.add (((ji19)).toNat * 4)).off + 2, none⟩ = some (.int .i64 ((rd_T35 l1 (ji19)).f2)) ∧ w'.cell? ⟨(ad729.add (((ji19)).toNat * 4)).block, (ad729.add (((ji19)).toNat * 4)).off + 3, none⟩ = some (.int .i64 ((rd_T35 l1 (ji19)).f3)) ∧ w'.cell? (ad729.add ((x5_2).toNat * 4)) = some (.int .i64 ((rd_T35 l1 x5_2).f0)) ∧ w'.cell? ⟨(ad729.add ((x5_2).toNat * 4)).block, (ad729.add ((x5_2).toNat * 4)).off + 1, none⟩ = some (.int .i64 ((rd_T35 l1 x5_2).f1)) ∧ w'.cell? ⟨(ad729.add ((x5_2).toNat * 4)).block, (ad729.add ((x5_2).toNat * 4)).off + 2, none⟩ = some (.int .i64 ((rd_T35 l1 x5_2).f2)) ∧ w'.cell? ⟨(ad729.add ((x5_2).toNat * 4)).block, (ad729.add ((x5_2).toNat * 4)).off + 3, none⟩ = some (.int .i64 ((rd_T35 l1 x5_2).f3))) (ds := []) #[false, false, false, false, false, false, false, false, false, false, false] (by kernel_rfl) rfl rfl ⟨((HB.out.cell (World.block_lt_of_cell? w _ hw729_0)).trans hw729_0), ((HB.out.cell (World.block_lt_of_cell? w _ hw729_1)).trans hw729_1), ((HB.out.cell (World.block_lt_of_cell? w _ hw729_2)).trans hw729_2), ((HB.out.cell (World.block_lt_of_cell? w _ hw729_3)).trans hw729_3), ((HB.out.cell (World.block_lt_of_cell? w _ hw730_0)).trans hw730_0), ((HB.out.cell (World.block_lt_of_cell? w _ hw730_1)).trans hw730_1), ((HB.out.cell (World.block_lt_of_cell? w _ hw730_2)).trans hw730_2), ((HB.out.cell (World.block_lt_of_cell? w _ hw730_3)).trans hw730_3)⟩ (fun hHeld => ?_); refine with_tabW impl_AreFlaws.tab6 impl_AreFlaws.bits6 (fun HT_ HW_ => ?_)
           generalize wr.drew = w25 at BK726 HB hx729_0 hx729_1 hx729_2 hx729_3 hx730_0 hx730_1 hx730_2 hx730_3 hHeld ⊢
           refine pure_ (i := 0) (N := some 27) (v := ?_) (a' := ?_) #[true, false, false, false, false, false, false, false, false, false, false] rfl rfl (any_of HT_.out (by kernel_rfl)) (fun _ _ _ h => h) (Or.inl ⟨by rfl, ?_⟩) ?_ ?_
           rotate_left
           ·intro w'
            go_simp
            with_reducible rfl
           rotate_left
           ·simp only [Act.put, sS_, sZ_, sC_, i64_w, i32_w]
            rfl
           refine pure_ (i := 1) (N := some 28) (v := ?_) (a' := ?_) #[true, true, false, false, false, false, false, false, false, false, false] rfl rfl (any_of HT_.out (by kernel_rfl)) (fun _ _ _ h => h) (Or.inl ⟨by rfl, ?_⟩) ?_ ?_
           rotate_left
           ·intro w'
            go_simp
            with_reducible rfl
           rotate_left
           ·simp only [Act.put, sS_, sZ_, sC_, i64_w, i32_w]
            rfl
           refine pure_ (i := 2) (N := some 29) (v := ?_) (a' := ?_) #[true, true, true, false, false, false, false, false, false, false, false] rfl rfl (any_of HT_.out (by kernel_rfl)) (fun _ _ _ h => h) (Or.inl ⟨by rfl, ?_⟩) ?_ ?_
           rotate_left
           ·intro w'
            go_simp
            with_reducible rfl
           rotate_left
           ·simp only [Act.put, sS_, sZ_, sC_, i64_w, i32_w]
            rfl
           refine pure_ (i := 3) (N := some 30) (v := ?_) (a' := ?_) #[true, true, true, true, false, false, false, false, false, false, false] rfl rfl (any_of HT_.out (by kernel_rfl)) (fun _ _ _ h => h) (Or.inl ⟨by rfl, ?_⟩) ?_ ?_
           rotate_left
           ·intro w'
            go_simp
            with_reducible rfl
           rotate_left
           ·simp only [Act.put, sS_, sZ_, sC_, i64_w, i32_w]
            rfl
           refine pure_ (i := 5) (N := some 32) (v := ?_) (a' := ?_) #[true, true, true, true, false, true, false, false, false, false, false] rfl rfl (any_of HT_.out (by kernel_rfl)) (fun _ _ _ h => h) (Or.inl ⟨by rfl, ?_⟩) ?_ ?_
           rotate_left
           ·intro w'
            go_simp
            with_reducible rfl
           rotate_left
           ·simp only [Act.put, sS_, sZ_, sC_, i64_w, i32_w]
            rfl
           refine pure_ (i := 6) (N := some 33) (v := ?_) (a' := ?_) #[true, true, true, true, false, true, true, false, false, false, false] rfl rfl (any_of HT_.out (by kernel_rfl)) (fun _ _ _ h => h) (Or.inl ⟨by rfl, ?_⟩) ?_ ?_
           rotate_left
           ·intro w'
            go_simp
            with_reducible rfl
           rotate_left
           ·simp only [Act.put, sS_, sZ_, sC_, i64_w, i32_w]
            rfl
           refine pure_ (i := 7) (N := some 34) (v := ?_) (a' := ?_) #[true, true, true, true, false, true, true, true, false, false, false] rfl rfl (any_of HT_.out (by kernel_rfl)) (fun _ _ _ h => h) (Or.inl ⟨by rfl, ?_⟩) ?_ ?_
           rotate_left
           ·intro w'
            go_simp
            with_reducible rfl
           rotate_left
           ·simp only [Act.put, sS_, sZ_, sC_, i64_w, i32_w]
            rfl
           refine take_ (i := 4) (N := some 31) (v := ?_) (a' := ?_) #[true, true, true, true, true, true, true, true, false, false, false] rfl rfl (take_ofW HT_.out HW_.out (by kernel_rfl)) (fun _ _ _ h => h) (Or.inl ⟨by rfl, ?_⟩) hHeld ?_ ?_
           rotate_left
           ·rintro w' ⟨s0, s1, s2, s3, s4, s5, s6, s7⟩
            go_simp
            with_reducible rfl
           rotate_left
           ·simp only [Act.put, sS_, sZ_, sC_, i64_w, i32_w]
            rfl
           refine take_ (i := 8) (N := some 35) (v := ?_) (a' := ?_) #[true, true, true, true, true, true, true, true, true, false, false] rfl rfl (take_ofW HT_.out HW_.out (by kernel_rfl)) (fun _ _ _ h => h) (Or.inl ⟨by rfl, ?_⟩) hHeld ?_ ?_
           rotate_left
           ·rintro w' ⟨s0, s1, s2, s3, s4, s5, s6, s7⟩
            go_simp
            with_reducible rfl
           rotate_left
           ·simp only [Act.put, sS_, sZ_, sC_, i64_w, i32_w]
            rfl
           refine one_ (i := 9) (N := some 36) #[true, true, true, true, true, true, true, true, true, true, false] rfl rfl (one_of HT_.out (by kernel_rfl)) (by decide) (fun K hK => ?_)
           refine goes_ Try.func100 (by kernel_rfl) rfl #[.agg #[.int .i64 ((rd_T35 l1 (ji19)).f0), .int .i64 ((rd_T35 l1 (ji19)).f1), .int .i64 ((rd_T35 l1 (ji19)).f2), .int .i64 ((rd_T35 l1 (ji19)).f3)], .agg #[.int .i64 ((rd_T35 l1 x5_2).f0), .int .i64 ((rd_T35 l1 x5_2).f1), .int .i64 ((rd_T35 l1 x5_2).f2), .int .i64 ((rd_T35 l1 x5_2).f3)]] (by rfl) rfl rfl (by (try simp only [List.map_toArray, List.map_cons, List.map_nil]); first | done | (simp only [hji19]; rfl) | rfl | (simp only [List.length_drop, List.length_take]; rfl)) ?_
           with_reducible refine (impl_Flaw_compare.calls k2 ((rd_T35 l1 (ji19)).f0) ((rd_T35 l1 (ji19)).f1) ((rd_T35 l1 (ji19)).f2) ((rd_T35 l1 (ji19)).f3) ((rd_T35 l1 x5_2).f0) ((rd_T35 l1 x5_2).f1) ((rd_T35 l1 x5_2).f2) ((rd_T35 l1 x5_2).f3) t731 _ A23.out).mono ?_
           rintro e w26 ⟨rfl, hb⟩
           refine ⟨_, rfl, ?_⟩
           have n0_ := Aside0.mk (blk_below (g := gb726) (o := .cells #[.int .i64 a0_0, .int .i64 a0_1, .slice A0_2 l0_2.length c0_2] 26 (0, 0)) (by (with_reducible repeat (first | refine blk_drewN ?_ _ | refine blk_drew ?_ | refine blk_alloc ?_ _)); exact BK726.out) hb)
           have n1_ := Aside0.mk (below_step (by repeat (first | (with_reducible first | exact HB.out | apply below_alloc | apply pw_below_drewN | apply below_drew1 | refine below_set ?_ GE726.out) | exact HB.out)) hb)
           clear BK726
           clear HB
           have BK726 := n0_
           have HB := n1_
           clear n0_ n1_
           (try clear hb)
           (try clear hb2)
           (try clear hk)
           (try clear hi)
           refine hK.out _ _ ⟨((HB.out.cell (World.block_lt_of_cell? w _ hw729_0)).trans hw729_0), ((HB.out.cell (World.block_lt_of_cell? w _ hw729_1)).trans hw729_1), ((HB.out.cell (World.block_lt_of_cell? w _ hw729_2)).trans hw729_2), ((HB.out.cell (World.block_lt_of_cell? w _ hw729_3)).trans hw729_3), ((HB.out.cell (World.block_lt_of_cell? w _ hw730_0)).trans hw730_0), ((HB.out.cell (World.block_lt_of_cell? w _ hw730_1)).trans hw730_1), ((HB.out.cell (World.block_lt_of_cell? w _ hw730_2)).trans hw730_2), ((HB.out.cell (World.block_lt_of_cell? w _ hw730_3)).trans hw730_3)⟩ (fun hHeld => ?_)
           clear hK K
           refine norm_ (a' := ?_) ?_ ?_
           rotate_left
           ·show Act.put _ (some 36) _ = _
            simp only [Act.put, sS_, sZ_, sC_, i64_w, i32_w]
            rfl
           refine pure_ (i := 10) (N := some 37) (v := ?_) (a' := ?_) #[true, true, true, true, true, true, true, true, true, true, true] rfl rfl (any_of HT_.out (by kernel_rfl)) (fun _ _ _ h => h) (Or.inl ⟨by rfl, ?_⟩) ?_ ?_
           rotate_left
           ·intro w'
            go_simp
            with_reducible rfl
           rotate_left
           ·simp only [Act.put, sS_, sZ_, sC_, i64_w, i32_w]
            rfl
           refine done_ (done_of HT_.out (by kernel_rfl)) ?_
           try go_wp2
           go_ret
           exact ⟨by first | rfl | (simp [errW_none, errW_some] <;> rfl) | (simp only [← hji19]; first | rfl | (simp [errW_none, errW_some] <;> rfl)) | (simp [*, errW_none, errW_some] <;> rfl) | (simp [wrap64]; done), by repeat (first | (with_reducible first | exact HB.out | apply below_alloc | apply pw_below_drewN | apply below_drew1 | refine below_set ?_ GE726.out) | exact HB.out)⟩
          ·rw [if_neg c24] at H
           have c24b0 : decide (0 ≤ t731) = false := decide_eq_false c24
           clear c24
           have H' := Aside0.mk H
           clear H
           try go_wp2
           have n0_ := Aside0.mk (blk_drew BK726.out)
           have n1_ := Aside0.mk (below_drew1 HB.out)
           clear BK726
           clear HB
           have BK726 := n0_
           have HB := n1_
           clear n0_ n1_
           have p729 : 0 ≤ ((ji19) : Int) := of_decide_eq_true (by first | (with_reducible assumption) | assumption)
           have q729 : (ji19) < (l1.length : Int) := of_decide_eq_true (by first | (with_reducible assumption) | assumption)
           obtain ⟨ad729, e729, hx729_0, hx729_1, hx729_2, hx729_3⟩ := at_T35 HR1.out (ji19) p729 q729
           have hw729_3 := hx729_3
           have hw729_2 := hx729_2
           have hw729_1 := hx729_1
           have hw729_0 := hx729_0
           cases e729
           replace hx729_0 := (HB.out.cell (World.block_lt_of_cell? w _ hx729_0)).trans hx729_0
           replace hx729_1 := (HB.out.cell (World.block_lt_of_cell? w _ hx729_1)).trans hx729_1
           replace hx729_2 := (HB.out.cell (World.block_lt_of_cell? w _ hx729_2)).trans hx729_2
           replace hx729_3 := (HB.out.cell (World.block_lt_of_cell? w _ hx729_3)).trans hx729_3
           replace p729 := eq_true p729
           replace q729 := eq_true q729
           have p730 : 0 ≤ (x5_2 : Int) := of_decide_eq_true (by first | (with_reducible assumption) | assumption)
           have q730 : x5_2 < (l1.length : Int) := of_decide_eq_true (by first | (with_reducible assumption) | assumption)
           obtain ⟨ad730, e730, hx730_0, hx730_1, hx730_2, hx730_3⟩ := at_T35 HR1.out x5_2 p730 q730
           have hw730_3 := hx730_3
           have hw730_2 := hx730_2
           have hw730_1 := hx730_1
           have hw730_0 := hx730_0
           obtain rfl : ad729 = ad730 := (by injection e730)
           replace hx730_0 := (HB.out.cell (World.block_lt_of_cell? w _ hx730_0)).trans hx730_0
           replace hx730_1 := (HB.out.cell (World.block_lt_of_cell? w _ hx730_1)).trans hx730_1
           replace hx730_2 := (HB.out.cell (World.block_lt_of_cell? w _ hx730_2)).trans hx730_2
           replace hx730_3 := (HB.out.cell (World.block_lt_of_cell? w _ hx730_3)).trans hx730_3
           replace p730 := eq_true p730
           replace q730 := eq_true q730
           refine start_ (n := 11) (S := fun w' => w'.cell? (ad729.add (((ji19)).toNat * 4)) = some (.int .i64 ((rd_T35 l1 (ji19)).f0)) ∧ w'.cell? ⟨(ad729.add (((ji19)).toNat * 4)).block, (ad729.add (((ji19)).toNat * 4)).off + 1, none⟩ = some (.int .i64 ((rd_T35 l1 (ji19)).f1)) ∧ w'.cell? ⟨(ad729.add (((ji19)).toNat * 4)).block, (ad729.add (((ji19)).toNat * 4)).off + 2, none⟩ = some (.int .i64 ((rd_T35 l1 (ji19)).f2)) ∧ w'.cell? ⟨(ad729.add (((ji19)).toNat * 4)).block, (ad729.add (((ji19)).toNat * 4)).off + 3, none⟩ = some (.int .i64 ((rd_T35 l1 (ji19)).f3)) ∧ w'.cell? (ad729.add ((x5_2).toNat * 4)) = some (.int .i64 ((rd_T35 l1 x5_2).f0)) ∧ w'.cell? ⟨(ad729.add ((x5_2).toNat * 4)).block, (ad729.add ((x5_2).toNat * 4)).off + 1, none⟩ = some (.int .i64 ((rd_T35 l1 x5_2).f1)) ∧ w'.cell? ⟨(ad729.add ((x5_2).toNat * 4)).block, (ad729.add ((x5_2).toNat * 4)).off + 2, none⟩ = some (.int .i64 ((rd_T35 l1 x5_2).f2)) ∧ w'.cell? ⟨(ad729.add ((x5_2).toNat * 4)).block, (ad729.add ((x5_2).toNat * 4)).off + 3, none⟩ = some (.int .i64 ((rd_T35 l1 x5_2).f3))) (ds := []) #[false, false, false, false, false, false, false, false, false, false, false] (by kernel_rfl) rfl rfl ⟨((HB.out.cell (World.block_lt_of_cell? w _ hw729_0)).trans hw729_0), ((HB.out.cell (World.block_lt_of_cell? w _ hw729_1)).trans hw729_1), ((HB.out.cell (World.block_lt_of_cell? w _ hw729_2)).trans hw729_2), ((HB.out.cell (World.block_lt_of_cell? w _ hw729_3)).trans hw729_3), ((HB.out.cell (World.block_lt_of_cell? w _ hw730_0)).trans hw730_0), ((HB.out.cell (World.block_lt_of_cell? w _ hw730_1)).trans hw730_1), ((HB.out.cell (World.block_lt_of_cell? w _ hw730_2)).trans hw730_2), ((HB.out.cell (World.block_lt_of_cell? w _ hw730_3)).trans hw730_3)⟩ (fun hHeld => ?_); refine with_tabW impl_AreFlaws.tab6 impl_AreFlaws.bits6 (fun HT_ HW_ => ?_)
           generalize wr.drew = w27 at BK726 HB hx729_0 hx729_1 hx729_2 hx729_3 hx730_0 hx730_1 hx730_2 hx730_3 hHeld ⊢
           refine pure_ (i := 0) (N := some 27) (v := ?_) (a' := ?_) #[true, false, false, false, false, false, false, false, false, false, false] rfl rfl (any_of HT_.out (by kernel_rfl)) (fun _ _ _ h => h) (Or.inl ⟨by rfl, ?_⟩) ?_ ?_
           rotate_left
           ·intro w'
            go_simp
            with_reducible rfl
           rotate_left
           ·simp only [Act.put, sS_, sZ_, sC_, i64_w, i32_w]
            rfl
           refine pure_ (i := 1) (N := some 28) (v := ?_) (a' := ?_) #[true, true, false, false, false, false, false, false, false, false, false] rfl rfl (any_of HT_.out (by kernel_rfl)) (fun _ _ _ h => h) (Or.inl ⟨by rfl, ?_⟩) ?_ ?_
           rotate_left
           ·intro w'
            go_simp
            with_reducible rfl
           rotate_left
           ·simp only [Act.put, sS_, sZ_, sC_, i64_w, i32_w]
            rfl
           refine pure_ (i := 2) (N := some 29) (v := ?_) (a' := ?_) #[true, true, true, false, false, false, false, false, false, false, false] rfl rfl (any_of HT_.out (by kernel_rfl)) (fun _ _ _ h => h) (Or.inl ⟨by rfl, ?_⟩) ?_ ?_
           rotate_left
           ·intro w'
            go_simp
            with_reducible rfl
           rotate_left
           ·simp only [Act.put, sS_, sZ_, sC_, i64_w, i32_w]
            rfl
           refine pure_ (i := 3) (N := some 30) (v := ?_) (a' := ?_) #[true, true, true, true, false, false, false, false, false, false, false] rfl rfl (any_of HT_.out (by kernel_rfl)) (fun _ _ _ h => h) (Or.inl ⟨by rfl, ?_⟩) ?_ ?_
           rotate_left
           ·intro w'
            go_simp
            with_reducible rfl
           rotate_left
           ·simp only [Act.put, sS_, sZ_, sC_, i64_w, i32_w]
            rfl
           refine pure_ (i := 5) (N := some 32) (v := ?_) (a' := ?_) #[true, true, true, true, false, true, false, false, false, false, false] rfl rfl (any_of HT_.out (by kernel_rfl)) (fun _ _ _ h => h) (Or.inl ⟨by rfl, ?_⟩) ?_ ?_
           rotate_left
           ·intro w'
            go_simp
            with_reducible rfl
           rotate_left
           ·simp only [Act.put, sS_, sZ_, sC_, i64_w, i32_w]
            rfl
           refine pure_ (i := 6) (N := some 33) (v := ?_) (a' := ?_) #[true, true, true, true, false, true, true, false, false, false, false] rfl rfl (any_of HT_.out (by kernel_rfl)) (fun _ _ _ h => h) (Or.inl ⟨by rfl, ?_⟩) ?_ ?_
           rotate_left
           ·intro w'
            go_simp
            with_reducible rfl
           rotate_left
           ·simp only [Act.put, sS_, sZ_, sC_, i64_w, i32_w]
            rfl
           refine pure_ (i := 7) (N := some 34) (v := ?_) (a' := ?_) #[true, true, true, true, false, true, true, true, false, false, false] rfl rfl (any_of HT_.out (by kernel_rfl)) (fun _ _ _ h => h) (Or.inl ⟨by rfl, ?_⟩) ?_ ?_
           rotate_left
           ·intro w'
            go_simp
            with_reducible rfl
           rotate_left
           ·simp only [Act.put, sS_, sZ_, sC_, i64_w, i32_w]
            rfl
           refine take_ (i := 4) (N := some 31) (v := ?_) (a' := ?_) #[true, true, true, true, true, true, true, true, false, false, false] rfl rfl (take_ofW HT_.out HW_.out (by kernel_rfl)) (fun _ _ _ h => h) (Or.inl ⟨by rfl, ?_⟩) hHeld ?_ ?_
           rotate_left
           ·rintro w' ⟨s0, s1, s2, s3, s4, s5, s6, s7⟩
            go_simp
            with_reducible rfl
           rotate_left
           ·simp only [Act.put, sS_, sZ_, sC_, i64_w, i32_w]
            rfl
           refine take_ (i := 8) (N := some 35) (v := ?_) (a' := ?_) #[true, true, true, true, true, true, true, true, true, false, false] rfl rfl (take_ofW HT_.out HW_.out (by kernel_rfl)) (fun _ _ _ h => h) (Or.inl ⟨by rfl, ?_⟩) hHeld ?_ ?_
           rotate_left
           ·rintro w' ⟨s0, s1, s2, s3, s4, s5, s6, s7⟩
            go_simp
            with_reducible rfl
           rotate_left
           ·simp only [Act.put, sS_, sZ_, sC_, i64_w, i32_w]
            rfl
           refine one_ (i := 9) (N := some 36) #[true, true, true, true, true, true, true, true, true, true, false] rfl rfl (one_of HT_.out (by kernel_rfl)) (by decide) (fun K hK => ?_)
           refine goes_ Try.func100 (by kernel_rfl) rfl #[.agg #[.int .i64 ((rd_T35 l1 (ji19)).f0), .int .i64 ((rd_T35 l1 (ji19)).f1), .int .i64 ((rd_T35 l1 (ji19)).f2), .int .i64 ((rd_T35 l1 (ji19)).f3)], .agg #[.int .i64 ((rd_T35 l1 x5_2).f0), .int .i64 ((rd_T35 l1 x5_2).f1), .int .i64 ((rd_T35 l1 x5_2).f2), .int .i64 ((rd_T35 l1 x5_2).f3)]] (by rfl) rfl rfl (by (try simp only [List.map_toArray, List.map_cons, List.map_nil]); first | done | (simp only [hji19]; rfl) | rfl | (simp only [List.length_drop, List.length_take]; rfl)) ?_
           with_reducible refine (impl_Flaw_compare.calls k2 ((rd_T35 l1 (ji19)).f0) ((rd_T35 l1 (ji19)).f1) ((rd_T35 l1 (ji19)).f2) ((rd_T35 l1 (ji19)).f3) ((rd_T35 l1 x5_2).f0) ((rd_T35 l1 x5_2).f1) ((rd_T35 l1 x5_2).f2) ((rd_T35 l1 x5_2).f3) t731 _ A23.out).mono ?_
           rintro e w28 ⟨rfl, hb⟩
           refine ⟨_, rfl, ?_⟩
           have n0_ := Aside0.mk (blk_below (g := gb726) (o := .cells #[.int .i64 a0_0, .int .i64 a0_1, .slice A0_2 l0_2.length c0_2] 26 (0, 0)) (by (with_reducible repeat (first | refine blk_drewN ?_ _ | refine blk_drew ?_ | refine blk_alloc ?_ _)); exact BK726.out) hb)
           have n1_ := Aside0.mk (below_step (by repeat (first | (with_reducible first | exact HB.out | apply below_alloc | apply pw_below_drewN | apply below_drew1 | refine below_set ?_ GE726.out) | exact HB.out)) hb)
           clear BK726
           clear HB
           have BK726 := n0_
           have HB := n1_
           clear n0_ n1_
           (try clear hb)
           (try clear hb2)
           (try clear hk)
           (try clear hi)
           refine hK.out _ _ ⟨((HB.out.cell (World.block_lt_of_cell? w _ hw729_0)).trans hw729_0), ((HB.out.cell (World.block_lt_of_cell? w _ hw729_1)).trans hw729_1), ((HB.out.cell (World.block_lt_of_cell? w _ hw729_2)).trans hw729_2), ((HB.out.cell (World.block_lt_of_cell? w _ hw729_3)).trans hw729_3), ((HB.out.cell (World.block_lt_of_cell? w _ hw730_0)).trans hw730_0), ((HB.out.cell (World.block_lt_of_cell? w _ hw730_1)).trans hw730_1), ((HB.out.cell (World.block_lt_of_cell? w _ hw730_2)).trans hw730_2), ((HB.out.cell (World.block_lt_of_cell? w _ hw730_3)).trans hw730_3)⟩ (fun hHeld => ?_)
           clear hK K
           refine norm_ (a' := ?_) ?_ ?_
           rotate_left
           ·show Act.put _ (some 36) _ = _
            simp only [Act.put, sS_, sZ_, sC_, i64_w, i32_w]
            rfl
           refine pure_ (i := 10) (N := some 37) (v := ?_) (a' := ?_) #[true, true, true, true, true, true, true, true, true, true, true] rfl rfl (any_of HT_.out (by kernel_rfl)) (fun _ _ _ h => h) (Or.inl ⟨by rfl, ?_⟩) ?_ ?_
           rotate_left
           ·intro w'
            go_simp
            with_reducible rfl
           rotate_left
           ·simp only [Act.put, sS_, sZ_, sC_, i64_w, i32_w]
            rfl
           refine done_ (done_of HT_.out (by kernel_rfl)) ?_
           try go_wp2
           go_roundg k2
           case measure => have := HJ2.out; have := HK2.out; omega
           case rel => exact ⟨(wrap64 (x5_2 + 1)), (by first | rfl | (simp; done) | (simp [*]; done)), H', ⟨by have := HJ2.out; have := HK2.out; omega⟩, ⟨by (with_reducible repeat (first | refine blk_drewN ?_ _ | refine blk_drew ?_ | refine blk_alloc ?_ _)); exact BK726.out⟩, ⟨by repeat (first | (with_reducible first | exact HB.out | apply below_alloc | apply pw_below_drewN | apply below_drew1 | refine below_set ?_ GE726.out) | exact HB.out)⟩⟩
         ·rw [if_neg c22] at H
          exact absurd H (by simp)
        ·rw [if_neg c21] at H
         exact absurd H (by simp)
       ·rw [if_neg c20] at H
        exact absurd H (by simp)
      ·rw [if_neg c18] at H
       have c18b0 : decide (x5_2 < (l1.length : Int)) = false := decide_eq_false c18
       clear c18
       obtain rfl := Option.some.inj H
       go_wp2
       go_ret
       exact ⟨by first | rfl | (simp [errW_none, errW_some] <;> rfl) | (simp [*, errW_none, errW_some] <;> rfl) | (simp [wrap64]; done), by repeat (first | (with_reducible first | exact HB.out | apply below_alloc | apply pw_below_drewN | apply below_drew1 | refine below_set ?_ GE726.out) | exact HB.out)⟩

end Go.Proofs.Ytkglpfdoefdhdaa.Q

namespace Go.Proofs.Ytkglpfdoefdhdaa.Q
open Go.RowKit Go.Proofs.YtkglpfdoefdhdaaW.PrintWords Go.Proofs.YtkglpfdoefdhdaaW.PrintLast Go.Proofs.YtkglpfdoefdhdaaW.PrintMore
attribute [local go_sem] max2_int min2_int max_two min_two max_three min_three max_four min_four
set_option linter.unusedVariables false
set_option linter.unusedSimpArgs false

/-! ### spec_l22Good: function 90 -/
abbrev D0_90 : Array Bool := #[false, false, false, false, false, false, false, false, false, false, false, false, false, false, false, false, false, false, false, false, false, false, false, false]
abbrev D1_90 : Array Bool := #[false, true, false, false, false, false, false, false, false, false, false, false, false, false, false, false, false, false, false, false, false, false, false, false]
abbrev D2_90 : Array Bool := #[false, true, true, false, false, false, false, false, false, false, false, false, false, false, false, false, false, false, false, false, false, false, false, false]
abbrev D3_90 : Array Bool := #[false, true, true, true, false, false, false, false, false, false, false, false, false, false, false, false, false, false, false, false, false, false, false, false]
abbrev D4_90 : Array Bool := #[true, true, true, true, false, false, false, false, false, false, false, false, false, false, false, false, false, false, false, false, false, false, false, false]
abbrev D5_90 : Array Bool := #[true, true, true, true, true, false, false, false, false, false, false, false, false, false, false, false, false, false, false, false, false, false, false, false]
abbrev D6_90 : Array Bool := #[true, true, true, true, true, true, false, false, false, false, false, false, false, false, false, false, false, false, false, false, false, false, false, false]
abbrev D7_90 : Array Bool := #[true, true, true, true, true, true, true, false, false, false, false, false, false, false, false, false, false, false, false, false, false, false, false, false]
abbrev D8_90 : Array Bool := #[true, true, true, true, true, true, true, true, false, false, false, false, false, false, false, false, false, false, false, false, false, false, false, false]
abbrev D9_90 : Array Bool := #[true, true, true, true, true, true, true, true, true, false, false, false, false, false, false, false, false, false, false, false, false, false, false, false]
abbrev D10_90 : Array Bool := #[true, true, true, true, true, true, true, true, true, true, false, false, false, false, false, false, false, false, false, false, false, false, false, false]
abbrev D11_90 : Array Bool := #[true, true, true, true, true, true, true, true, true, true, true, false, false, false, false, false, false, false, false, false, false, false, false, false]
abbrev D12_90 : Array Bool := #[true, true, true, true, true, true, true, true, true, true, true, true, false, false, false, false, false, false, false, false, false, false, false, false]
abbrev D13_90 : Array Bool := #[true, true, true, true, true, true, true, true, true, true, true, true, true, false, false, false, false, false, false, false, false, false, false, false]
abbrev D14_90 : Array Bool := #[true, true, true, true, true, true, true, true, true, true, true, true, true, true, false, false, false, false, false, false, false, false, false, false]
abbrev D15_90 : Array Bool := #[true, true, true, true, true, true, true, true, true, true, true, true, true, true, true, false, false, false, false, false, false, false, false, false]
abbrev D16_90 : Array Bool := #[true, true, true, true, true, true, true, true, true, true, true, true, true, true, true, false, true, false, false, false, false, false, false, false]
abbrev D17_90 : Array Bool := #[true, true, true, true, true, true, true, true, true, true, true, true, true, true, true, false, true, true, false, false, false, false, false, false]
abbrev D18_90 : Array Bool := #[true, true, true, true, true, true, true, true, true, true, true, true, true, true, true, false, true, true, true, false, false, false, false, false]
abbrev D19_90 : Array Bool := #[true, true, true, true, true, true, true, true, true, true, true, true, true, true, true, true, true, true, true, false, false, false, false, false]
abbrev D20_90 : Array Bool := #[true, true, true, true, true, true, true, true, true, true, true, true, true, true, true, true, true, true, true, true, false, false, false, false]
abbrev D21_90 : Array Bool := #[true, true, true, true, true, true, true, true, true, true, true, true, true, true, true, true, true, true, true, true, true, false, false, false]
abbrev D22_90 : Array Bool := #[true, true, true, true, true, true, true, true, true, true, true, true, true, true, true, true, true, true, true, true, true, true, false, false]
abbrev D23_90 : Array Bool := #[true, true, true, true, true, true, true, true, true, true, true, true, true, true, true, true, true, true, true, true, true, true, true, false]
abbrev D24_90 : Array Bool := #[true, true, true, true, true, true, true, true, true, true, true, true, true, true, true, true, true, true, true, true, true, true, true, true]
abbrev D25_90 : Array Bool := #[true, true, true, true, true, true, true, true, true, true, true, true, true, true, true, true, false, false, false, false, false, false, false, false]
abbrev D26_90 : Array Bool := #[true, true, true, true, true, true, true, true, true, true, true, true, true, true, true, true, true, false, false, false, false, false, false, false]
abbrev D27_90 : Array Bool := #[true, true, true, true, true, true, true, true, true, true, true, true, true, true, true, true, true, true, false, false, false, false, false, false]
def spec_l22Good.l0 : Nat → List (S35) → Int → Int → Int → List Int → Option (Bool)
 | 0, _, _, _, _, _ => none
 | k + 1, x1, x5, x783000, x783001, x783002 => if x5 < (x1.length : Int) then (if 0 ≤ x5 then ((spec_l22One.f k x783000 x783001 x783002 ((rd_T35 x1 x5).f0) ((rd_T35 x1 x5).f1) ((rd_T35 x1 x5).f2) ((rd_T35 x1 x5).f3)).bind fun t785 => (if t785 = true then (if x5 > 0 then (if 0 ≤ (wrap64 (x5 - 1)) then (if (wrap64 (x5 - 1)) < (x1.length : Int) then ((spec_l22Before.f ((rd_T35 x1 (wrap64 (x5 - 1))).f0) ((rd_T35 x1 (wrap64 (x5 - 1))).f1) ((rd_T35 x1 (wrap64 (x5 - 1))).f2) ((rd_T35 x1 (wrap64 (x5 - 1))).f3) ((rd_T35 x1 x5).f0) ((rd_T35 x1 x5).f1) ((rd_T35 x1 x5).f2) ((rd_T35 x1 x5).f3)).bind fun t788 => (if t788 = true then (spec_l22Good.l0 k x1 (wrap64 (x5 + 1)) x783000 x783001 x783002) else (some false))) else (none)) else (none)) else (spec_l22Good.l0 k x1 (wrap64 (x5 + 1)) x783000 x783001 x783002)) else (some false))) else (none)) else ((spec_l2Good.f k x783000 x783001 x783002).bind fun t783 => (if t783 = true then (some (decide ((x1.length : Int) ≤ 12))) else (some false)))
def spec_l22Good.f (k : Nat) (a0_0 : Int) (a0_1 : Int) (l0_2 : List Int) (l1 : List (S35)) : Option (Bool) := spec_l22Good.l0 k l1 0 a0_0 a0_1 l0_2
def spec_l22Good.T4 : Bool × List (List Nat × List Nat) := (true, [([], []), ([], []), ([], []), ([1, 2], [1, 2]), ([3], [3]), ([0, 4], [0, 4]), ([5], [5]), ([6, 5], [6]), ([7], [7]), ([8, 7], [7, 8]), ([9, 7, 7], [7, 9]), ([10], [10]), ([10], [10]), ([12, 10], [10, 12]), ([11, 13, 10], [10, 11, 13]), ([14, 10], [10, 14]), ([10], [10]), ([10], [10]), ([16, 17, 10], [10, 16, 17]), ([18, 10], [10, 18]), ([15, 19, 10, 10], [10, 15, 19]), ([20, 10], [10, 20]), ([10, 21, 7], [7, 10, 21]), ([7, 22], [7, 22])])
def spec_l22Good.B4 : List Nat := [0, 0, 0, 6, 14, 31, 63, 127, 255, 511, 1023, 2047, 2047, 6143, 16383, 32767, 2047, 2047, 198655, 460799, 1048575, 2097151, 4194303, 8388607]
theorem spec_l22Good.tab4 : rtab .any (opsOf Try.f90 4) = spec_l22Good.T4 := by kernel_rfl
theorem spec_l22Good.bits4 : waitsOk spec_l22Good.T4.2 spec_l22Good.B4 = true := by kernel_rfl
set_option maxHeartbeats 8000000 in
set_option maxRecDepth 100000 in
theorem spec_l22Good.calls (k : Nat) (a0_0 : Int) (a0_1 : Int) (A0_2 : Option Addr) (c0_2 : Nat) (l0_2 : List Int) (A1 : Option Addr) (c1 : Nat) (l1 : List (S35)) (r : Bool) (w : World) (hr0_2 : Kd.C (Kd.int .i64) w A0_2 l0_2.length l0_2) (hc0_2 : l0_2.length ≤ c0_2) (hr1 : Kd.C k35 w A1 l1.length l1) (hc1 : l1.length ≤ c1) (h : spec_l22Good.f k a0_0 a0_1 l0_2 l1 = some r) :
  Calls Try.prog 90 #[.agg #[.int .i64 a0_0, .int .i64 a0_1, .slice A0_2 l0_2.length c0_2], .slice A1 l1.length c1] w fun e w' => e = .returned (.bool r) ∧ Below w.heap.size w w' := by
 have hu26 := Try.underlying26
 have hu35 := Try.underlying35
 have HR0_2 := Aside0.mk hr0_2
 have HC0_2 := Aside0.mk hc0_2
 clear hr0_2 hc0_2
 have HR1 := Aside0.mk hr1
 have HC1 := Aside0.mk hc1
 clear hr1 hc1
 have HB := Aside0.mk (Below.refl w.heap.size w)
 have H : (spec_l22Good.l0 k l1 0 a0_0 a0_1 l0_2) = some r := h
 clear h
 have H' := Aside0.mk H
 clear H
 go_enter Try.func90, Try.ntmps90
 go_wp2_with (first | ((with_reducible refine gate_dst (N := 2) rfl ?_); (try (refine gate_guard (by rfl) ?_; dsimp only)); refine box_event ?hg (N := 2) ?hd (cs := #[.int .i64 a0_0, .int .i64 a0_1, .slice A0_2 l0_2.length c0_2]) (t := 26) ?hr ?_; (case hd => rfl); (case hg => rfl); (case hr => first | (go_simp; done) | (go_simp; rfl)); intro gb782 hg w3 hbox hb; have n0_ := Aside0.mk (below_step (by repeat (first | (with_reducible first | exact HB.out | apply below_alloc | apply pw_below_drewN | apply below_drew1) | exact HB.out)) hb); have n1_ := Aside0.mk (hbox); have n2_ := Aside0.mk ((by rw [hg]; exact (below_size (by repeat (first | (with_reducible first | exact HB.out | apply below_alloc | apply pw_below_drewN | apply below_drew1) | exact HB.out))) : w.heap.size ≤ gb782)); have n3_ := Aside0.mk ((by rw [hg]; exact (below_size (by repeat (first | (with_reducible first | exact HB.out | apply below_alloc | apply pw_below_drewN | apply below_drew1) | exact HB.out))) : w.heap.size ≤ gb782)); clear HB; have HB := n0_; have BK782 := n1_; have GW782 := n2_; have GE782 := n3_; clear n0_ n1_ n2_ n3_; clear hb hbox hg))
 go_loopg [5] k (fun kq v5 w' => ∃ (x5_1 : Int), v5 = .int .i64 x5_1 ∧ Aside0 (spec_l22Good.l0 kq l1 x5_1 a0_0 a0_1 l0_2 = some r) ∧ Aside0 (kq ≤ k) ∧ Aside0 (w'.heap[gb782]? = some (.cells #[.int .i64 a0_0, .int .i64 a0_1, (.slice A0_2 l0_2.length c0_2)] 26 (0, 0))) ∧ Aside0 (Below w.heap.size w w'))
 case atStart => exact ⟨(0), (by first | rfl | (simp; done) | (simp [*]; done)), H', ⟨Nat.le_refl _⟩, ⟨by (with_reducible repeat (first | refine blk_drewN ?_ _ | refine blk_drew ?_ | refine blk_alloc ?_ _)); exact BK782.out⟩, ⟨by repeat (first | (with_reducible first | exact HB.out | apply below_alloc | apply pw_below_drewN | apply below_drew1 | refine below_set ?_ GE782.out) | exact HB.out)⟩⟩
 case round =>
  clear H'
  try clear c1
  try clear p2
  obtain ⟨x5_1, rfl, HA, HK1, BK782, HB⟩ := hrel
  cases gk with
  | zero => exact absurd HA.out (by simp [spec_l22Good.l0])
  | succ k1 =>
   have H := HA.out
   clear HA
   simp only [spec_l22Good.l0] at H
   by_cases c4 : x5_1 < (l1.length : Int)
   ·rw [if_pos c4] at H
    have c4b0 : decide (x5_1 < (l1.length : Int)) = true := decide_eq_true c4
    clear c4
    by_cases c5 : 0 ≤ x5_1
    ·rw [if_pos c5] at H
     have c5b0 : decide (0 ≤ x5_1) = true := decide_eq_true c5
     clear c5
     replace H := Option.bind_eq_some_iff.mp H
     obtain ⟨t785, A60, H⟩ := H
     have A6 := Aside0.mk A60
     clear A60
     by_cases c7 : t785 = true
     ·subst c7
      rw [if_pos rfl] at H
      by_cases c8 : x5_1 > 0
      ·rw [if_pos c8] at H
       have c8b0 : decide (0 < x5_1) = true := decide_eq_true c8
       clear c8
       obtain ⟨ji9, hji9⟩ : ∃ j_ : Int, (wrap64 (x5_1 - 1)) = j_ := ⟨_, rfl⟩
       replace H : (if 0 ≤ (ji9) then (if (ji9) < (l1.length : Int) then ((spec_l22Before.f ((rd_T35 l1 (ji9)).f0) ((rd_T35 l1 (ji9)).f1) ((rd_T35 l1 (ji9)).f2) ((rd_T35 l1 (ji9)).f3) ((rd_T35 l1 x5_1).f0) ((rd_T35 l1 x5_1).f1) ((rd_T35 l1 x5_1).f2) ((rd_T35 l1 x5_1).f3)).bind fun t788 => (if t788 = true then (spec_l22Good.l0 k1 l1 (wrap64 (x5_1 + 1)) a0_0 a0_1 l0_2) else (some false))) else (none)) else (none)) = some r := by first | (rw [hji9] at H; exact H) | (simp only [hji9] at H ⊢; exact H)
       (try rw [hji9] at A6)
       have hji9w : (IntKind.i64.wrap (x5_1 - 1)) = ji9 := (i64_w _).trans hji9
       by_cases c10 : 0 ≤ (ji9)
       ·rw [if_pos c10] at H
        have c10b0 : decide (0 ≤ (ji9)) = true := decide_eq_true c10
        clear c10
        by_cases c11 : (ji9) < (l1.length : Int)
        ·rw [if_pos c11] at H
         have c11b0 : decide ((ji9) < (l1.length : Int)) = true := decide_eq_true c11
         clear c11
         replace H := Option.bind_eq_some_iff.mp H
         obtain ⟨t788, A120, H⟩ := H
         have A12 := Aside0.mk A120
         clear A120
         by_cases c13 : t788 = true
         ·subst c13
          rw [if_pos rfl] at H
          have H' := Aside0.mk H
          clear H
          try go_wp2
          have n0_ := Aside0.mk (blk_drew BK782.out)
          have n1_ := Aside0.mk (below_drew1 HB.out)
          clear BK782
          clear HB
          have BK782 := n0_
          have HB := n1_
          clear n0_ n1_
          have p784 : 0 ≤ (x5_1 : Int) := of_decide_eq_true (by first | (with_reducible assumption) | assumption)
          have q784 : x5_1 < (l1.length : Int) := of_decide_eq_true (by first | (with_reducible assumption) | assumption)
          obtain ⟨ad784, e784, hx784_0, hx784_1, hx784_2, hx784_3⟩ := at_T35 HR1.out x5_1 p784 q784
          have hw784_3 := hx784_3
          have hw784_2 := hx784_2
          have hw784_1 := hx784_1
          have hw784_0 := hx784_0
          cases e784
          replace hx784_0 := (HB.out.cell (World.block_lt_of_cell? w _ hx784_0)).trans hx784_0
          replace hx784_1 := (HB.out.cell (World.block_lt_of_cell? w _ hx784_1)).trans hx784_1
          replace hx784_2 := (HB.out.cell (World.block_lt_of_cell? w _ hx784_2)).trans hx784_2
          replace hx784_3 := (HB.out.cell (World.block_lt_of_cell? w _ hx784_3)).trans hx784_3
          replace p784 := eq_true p784
          replace q784 := eq_true q784
          have p786 : 0 ≤ ((ji9) : Int) := of_decide_eq_true (by first | (with_reducible assumption) | assumption)
          have q786 : (ji9) < (l1.length : Int) := of_decide_eq_true (by first | (with_reducible assumption) | assumption)
          obtain ⟨ad786, e786, hx786_0, hx786_1, hx786_2, hx786_3⟩ := at_T35 HR1.out (ji9) p786 q786
          have hw786_3 := hx786_3
          have hw786_2 := hx786_2
          have hw786_1 := hx786_1
          have hw786_0 := hx786_0
          obtain rfl : ad784 = ad786 := (by injection e786)
          replace hx786_0 := (HB.out.cell (World.block_lt_of_cell? w _ hx786_0)).trans hx786_0
          replace hx786_1 := (HB.out.cell (World.block_lt_of_cell? w _ hx786_1)).trans hx786_1
          replace hx786_2 := (HB.out.cell (World.block_lt_of_cell? w _ hx786_2)).trans hx786_2
          replace hx786_3 := (HB.out.cell (World.block_lt_of_cell? w _ hx786_3)).trans hx786_3
          replace p786 := eq_true p786
          replace q786 := eq_true q786
          have p787 : 0 ≤ (x5_1 : Int) := of_decide_eq_true (by first | (with_reducible assumption) | assumption)
          have q787 : x5_1 < (l1.length : Int) := of_decide_eq_true (by first | (with_reducible assumption) | assumption)
          obtain ⟨ad787, e787, hx787_0, hx787_1, hx787_2, hx787_3⟩ := at_T35 HR1.out x5_1 p787 q787
          have hw787_3 := hx787_3
          have hw787_2 := hx787_2
          have hw787_1 := hx787_1
          have hw787_0 := hx787_0
          obtain rfl : ad784 = ad787 := (by injection e787)
          replace hx787_0 := (HB.out.cell (World.block_lt_of_cell? w _ hx787_0)).trans hx787_0
          replace hx787_1 := (HB.out.cell (World.block_lt_of_cell? w _ hx787_1)).trans hx787_1
          replace hx787_2 := (HB.out.cell (World.block_lt_of_cell? w _ hx787_2)).trans hx787_2
          replace hx787_3 := (HB.out.cell (World.block_lt_of_cell? w _ hx787_3)).trans hx787_3
          replace p787 := eq_true p787
          replace q787 := eq_true q787
          refine start_ (n := 24) (S := fun w' => w'.cell? ⟨gb782, 0, none⟩ = some (.int .i64 a0_0) ∧ w'.cell? ⟨gb782, 1, none⟩ = some (.int .i64 a0_1) ∧ w'.cell? ⟨gb782, 2, none⟩ = some (.slice A0_2 l0_2.length c0_2) ∧ w'.cell? (ad784.add ((x5_1).toNat * 4)) = some (.int .i64 ((rd_T35 l1 x5_1).f0)) ∧ w'.cell? ⟨(ad784.add ((x5_1).toNat * 4)).block, (ad784.add ((x5_1).toNat * 4)).off + 1, none⟩ = some (.int .i64 ((rd_T35 l1 x5_1).f1)) ∧ w'.cell? ⟨(ad784.add ((x5_1).toNat * 4)).block, (ad784.add ((x5_1).toNat * 4)).off + 2, none⟩ = some (.int .i64 ((rd_T35 l1 x5_1).f2)) ∧ w'.cell? ⟨(ad784.add ((x5_1).toNat * 4)).block, (ad784.add ((x5_1).toNat * 4)).off + 3, none⟩ = some (.int .i64 ((rd_T35 l1 x5_1).f3)) ∧ w'.cell? (ad784.add (((ji9)).toNat * 4)) = some (.int .i64 ((rd_T35 l1 (ji9)).f0)) ∧ w'.cell? ⟨(ad784.add (((ji9)).toNat * 4)).block, (ad784.add (((ji9)).toNat * 4)).off + 1, none⟩ = some (.int .i64 ((rd_T35 l1 (ji9)).f1)) ∧ w'.cell? ⟨(ad784.add (((ji9)).toNat * 4)).block, (ad784.add (((ji9)).toNat * 4)).off + 2, none⟩ = some (.int .i64 ((rd_T35 l1 (ji9)).f2)) ∧ w'.cell? ⟨(ad784.add (((ji9)).toNat * 4)).block, (ad784.add (((ji9)).toNat * 4)).off + 3, none⟩ = some (.int .i64 ((rd_T35 l1 (ji9)).f3)) ∧ w'.cell? (ad784.add ((x5_1).toNat * 4)) = some (.int .i64 ((rd_T35 l1 x5_1).f0)) ∧ w'.cell? ⟨(ad784.add ((x5_1).toNat * 4)).block, (ad784.add ((x5_1).toNat * 4)).off + 1, none⟩ = some (.int .i64 ((rd_T35 l1 x5_1).f1)) ∧ w'.cell? ⟨(ad784.add ((x5_1).toNat * 4)).block, (ad784.add ((x5_1).toNat * 4)).off + 2, none⟩ = some (.int .i64 ((rd_T35 l1 x5_1).f2)) ∧ w'.cell? ⟨(ad784.add ((x5_1).toNat * 4)).block, (ad784.add ((x5_1).toNat * 4)).off + 3, none⟩ = some (.int .i64 ((rd_T35 l1 x5_1).f3))) (ds := []) D0_90 (by kernel_rfl) rfl rfl ⟨(blk_cell BK782.out 0).trans rfl, (blk_cell BK782.out 1).trans rfl, (blk_cell BK782.out 2).trans rfl, ((HB.out.cell (World.block_lt_of_cell? w _ hw784_0)).trans hw784_0), ((HB.out.cell (World.block_lt_of_cell? w _ hw784_1)).trans hw784_1), ((HB.out.cell (World.block_lt_of_cell? w _ hw784_2)).trans hw784_2), ((HB.out.cell (World.block_lt_of_cell? w _ hw784_3)).trans hw784_3), ((HB.out.cell (World.block_lt_of_cell? w _ hw786_0)).trans hw786_0), ((HB.out.cell (World.block_lt_of_cell? w _ hw786_1)).trans hw786_1), ((HB.out.cell (World.block_lt_of_cell? w _ hw786_2)).trans hw786_2), ((HB.out.cell (World.block_lt_of_cell? w _ hw786_3)).trans hw786_3), ((HB.out.cell (World.block_lt_of_cell? w _ hw787_0)).trans hw787_0), ((HB.out.cell (World.block_lt_of_cell? w _ hw787_1)).trans hw787_1), ((HB.out.cell (World.block_lt_of_cell? w _ hw787_2)).trans hw787_2), ((HB.out.cell (World.block_lt_of_cell? w _ hw787_3)).trans hw787_3)⟩ (fun hHeld => ?_); refine with_tabW spec_l22Good.tab4 spec_l22Good.bits4 (fun HT_ HW_ => ?_)
          generalize wr.drew = w14 at BK782 HB hx784_0 hx784_1 hx784_2 hx784_3 hx786_0 hx786_1 hx786_2 hx786_3 hx787_0 hx787_1 hx787_2 hx787_3 hHeld ⊢
          refine pure_ (i := 1) (N := some 13) (v := ?_) (a' := ?_) D1_90 rfl rfl (any_of HT_.out (by kernel_rfl)) (fun _ _ _ h => h) (Or.inl ⟨by rfl, ?_⟩) ?_ ?_
          rotate_left
          ·intro w'
           go_simp
           with_reducible rfl
          rotate_left
          ·simp only [Act.put, sS_, sZ_, sC_, i64_w, i32_w]
           rfl
          refine pure_ (i := 2) (N := some 14) (v := ?_) (a' := ?_) D2_90 rfl rfl (any_of HT_.out (by kernel_rfl)) (fun _ _ _ h => h) (Or.inl ⟨by rfl, ?_⟩) ?_ ?_
          rotate_left
          ·intro w'
           go_simp
           with_reducible rfl
          rotate_left
          ·simp only [Act.put, sS_, sZ_, sC_, i64_w, i32_w]
           rfl
          refine pure_ (i := 3) (N := some 15) (v := ?_) (a' := ?_) D3_90 rfl rfl (any_of HT_.out (by kernel_rfl)) (fun _ _ _ h => h) (Or.inl ⟨by rfl, ?_⟩) ?_ ?_
          rotate_left
          ·intro w'
           go_simp
           with_reducible rfl
          rotate_left
          ·simp only [Act.put, sS_, sZ_, sC_, i64_w, i32_w]
           rfl
          refine take_ (i := 0) (N := some 12) (v := ?_) (a' := ?_) D4_90 rfl rfl (take_ofW HT_.out HW_.out (by kernel_rfl)) (fun _ _ _ h => h) (Or.inl ⟨by rfl, ?_⟩) hHeld ?_ ?_
          rotate_left
          ·rintro w' ⟨s0, s1, s2, s3, s4, s5, s6, s7, s8, s9, s10, s11, s12, s13, s14⟩
           go_simp
           with_reducible rfl
          rotate_left
          ·simp only [Act.put, sS_, sZ_, sC_, i64_w, i32_w]
           rfl
          refine take_ (i := 4) (N := some 16) (v := ?_) (a' := ?_) D5_90 rfl rfl (take_ofW HT_.out HW_.out (by kernel_rfl)) (fun _ _ _ h => h) (Or.inl ⟨by rfl, ?_⟩) hHeld ?_ ?_
          rotate_left
          ·rintro w' ⟨s0, s1, s2, s3, s4, s5, s6, s7, s8, s9, s10, s11, s12, s13, s14⟩
           go_simp
           with_reducible rfl
          rotate_left
          ·simp only [Act.put, sS_, sZ_, sC_, i64_w, i32_w]
           rfl
          refine one_ (i := 5) (N := some 17) D6_90 rfl rfl (one_of HT_.out (by kernel_rfl)) (by decide) (fun K hK => ?_)
          refine goes_ Try.func106 (by kernel_rfl) rfl #[.agg #[.int .i64 a0_0, .int .i64 a0_1, .slice A0_2 l0_2.length c0_2], .agg #[.int .i64 ((rd_T35 l1 x5_1).f0), .int .i64 ((rd_T35 l1 x5_1).f1), .int .i64 ((rd_T35 l1 x5_1).f2), .int .i64 ((rd_T35 l1 x5_1).f3)]] (by rfl) rfl rfl (by (try simp only [List.map_toArray, List.map_cons, List.map_nil]); first | done | rfl | (simp only [List.length_drop, List.length_take]; rfl)) ?_
          with_reducible refine (spec_l22One.calls k1 a0_0 a0_1 _ _ l0_2 ((rd_T35 l1 x5_1).f0) ((rd_T35 l1 x5_1).f1) ((rd_T35 l1 x5_1).f2) ((rd_T35 l1 x5_1).f3) true _ ?side1 ?side2 A6.out).mono ?_
          (case side1 => repeat (first | exact (Kd.C_below HR0_2.out HB.out) | (with_reducible refine Kd.C_alloc ?_ _) | (with_reducible refine Kd.C_drewN ?_ _) | (with_reducible refine Kd.C_drew ?_)))
          (case side2 => exact HC0_2.out)
          rintro e w15 ⟨rfl, hb⟩
          refine ⟨_, rfl, ?_⟩
          have n0_ := Aside0.mk (blk_below (g := gb782) (o := .cells #[.int .i64 a0_0, .int .i64 a0_1, .slice A0_2 l0_2.length c0_2] 26 (0, 0)) (by (with_reducible repeat (first | refine blk_drewN ?_ _ | refine blk_drew ?_ | refine blk_alloc ?_ _)); exact BK782.out) hb)
          have n1_ := Aside0.mk (below_step (by repeat (first | (with_reducible first | exact HB.out | apply below_alloc | apply pw_below_drewN | apply below_drew1 | refine below_set ?_ GE782.out) | exact HB.out)) hb)
          clear BK782
          clear HB
          have BK782 := n0_
          have HB := n1_
          clear n0_ n1_
          (try clear hb)
          (try clear hb2)
          (try clear hk)
          (try clear hi)
          refine hK.out _ _ ⟨(blk_cell BK782.out 0).trans rfl, (blk_cell BK782.out 1).trans rfl, (blk_cell BK782.out 2).trans rfl, ((HB.out.cell (World.block_lt_of_cell? w _ hw784_0)).trans hw784_0), ((HB.out.cell (World.block_lt_of_cell? w _ hw784_1)).trans hw784_1), ((HB.out.cell (World.block_lt_of_cell? w _ hw784_2)).trans hw784_2), ((HB.out.cell (World.block_lt_of_cell? w _ hw784_3)).trans hw784_3), ((HB.out.cell (World.block_lt_of_cell? w _ hw786_0)).trans hw786_0), ((HB.out.cell (World.block_lt_of_cell? w _ hw786_1)).trans hw786_1), ((HB.out.cell (World.block_lt_of_cell? w _ hw786_2)).trans hw786_2), ((HB.out.cell (World.block_lt_of_cell? w _ hw786_3)).trans hw786_3), ((HB.out.cell (World.block_lt_of_cell? w _ hw787_0)).trans hw787_0), ((HB.out.cell (World.block_lt_of_cell? w _ hw787_1)).trans hw787_1), ((HB.out.cell (World.block_lt_of_cell? w _ hw787_2)).trans hw787_2), ((HB.out.cell (World.block_lt_of_cell? w _ hw787_3)).trans hw787_3)⟩ (fun hHeld => ?_)
          clear hK K
          refine norm_ (a' := ?_) ?_ ?_
          rotate_left
          ·show Act.put _ (some 17) _ = _
           simp only [Act.put, sS_, sZ_, sC_, i64_w, i32_w]
           rfl
          refine pure_ (i := 6) (N := some 18) (v := ?_) (a' := ?_) D7_90 rfl rfl (any_of HT_.out (by kernel_rfl)) (fun _ _ _ h => h) (Or.inl ⟨by rfl, ?_⟩) ?_ ?_
          rotate_left
          ·intro w'
           go_simp
           with_reducible rfl
          rotate_left
          ·simp only [Act.put, sS_, sZ_, sC_, i64_w, i32_w]
           rfl
          refine pure_ (i := 7) (N := some 19) (v := ?_) (a' := ?_) D8_90 rfl rfl (any_of HT_.out (by kernel_rfl)) (fun _ _ _ h => h) (Or.inl ⟨by rfl, ?_⟩) ?_ ?_
          rotate_left
          ·intro w'
           go_simp
           with_reducible rfl
          rotate_left
          ·simp only [Act.put, sS_, sZ_, sC_, i64_w, i32_w]
           rfl
          refine pure_ (i := 8) (N := some 20) (v := ?_) (a' := ?_) D9_90 rfl rfl (any_of HT_.out (by kernel_rfl)) (fun _ _ _ h => h) (Or.inl ⟨by rfl, ?_⟩) ?_ ?_
          rotate_left
          ·intro w'
           go_simp
           with_reducible rfl
          rotate_left
          ·simp only [Act.put, sS_, sZ_, sC_, i64_w, i32_w]
           rfl
          refine pure_ (i := 9) (N := some 21) (v := ?_) (a' := ?_) D10_90 rfl rfl (any_of HT_.out (by kernel_rfl)) (fun _ _ _ h => h) (Or.inl ⟨by rfl, ?_⟩) ?_ ?_
          rotate_left
          ·intro w'
           go_simp
           with_reducible rfl
          rotate_left
          ·simp only [Act.put, sS_, sZ_, sC_, i64_w, i32_w]
           rfl
          refine pure_ (i := 10) (N := some 22) (v := ?_) (a' := ?_) D11_90 rfl rfl (any_of HT_.out (by kernel_rfl)) (fun _ _ _ h => h) (Or.inl ⟨by rfl, ?_⟩) ?_ ?_
          rotate_left
          ·intro w'
           go_simp
           with_reducible rfl
          rotate_left
          ·simp only [Act.put, sS_, sZ_, sC_, i64_w, i32_w]
           rfl
          refine pure_ (i := 11) (N := some 23) (v := ?_) (a' := ?_) D12_90 rfl rfl (any_of HT_.out (by kernel_rfl)) (fun _ _ _ h => h) (Or.inl ⟨by rfl, ?_⟩) ?_ ?_
          rotate_left
          ·intro w'
           go_simp
           with_reducible rfl
          rotate_left
          ·simp only [Act.put, sS_, sZ_, sC_, i64_w, i32_w]
           rfl
          refine pure_ (i := 12) (N := some 24) (v := ?_) (a' := ?_) D13_90 rfl rfl (any_of HT_.out (by kernel_rfl)) (fun _ _ _ h => h) (Or.inl ⟨by rfl, ?_⟩) ?_ ?_
          rotate_left
          ·intro w'
           go_simp
           with_reducible rfl
          rotate_left
          ·simp only [Act.put, sS_, sZ_, sC_, i64_w, i32_w]
           rfl
          refine pure_ (i := 13) (N := some 25) (v := ?_) (a' := ?_) D14_90 rfl rfl (any_of HT_.out (by kernel_rfl)) (fun _ _ _ h => h) (Or.inl ⟨by rfl, ?_⟩) ?_ ?_
          rotate_left
          ·intro w'
           go_simp
           with_reducible rfl
          rotate_left
          ·simp only [Act.put, sS_, sZ_, sC_, i64_w, i32_w]
           rfl
          refine pure_ (i := 14) (N := some 26) (v := ?_) (a' := ?_) D15_90 rfl rfl (any_of HT_.out (by kernel_rfl)) (fun _ _ _ h => h) (Or.inl ⟨by rfl, ?_⟩) ?_ ?_
          rotate_left
          ·intro w'
           go_simp
           with_reducible rfl
          rotate_left
          ·simp only [Act.put, sS_, sZ_, sC_, i64_w, i32_w]
           rfl
          refine pure_ (i := 16) (N := some 28) (v := ?_) (a' := ?_) D16_90 rfl rfl (any_of HT_.out (by kernel_rfl)) (fun _ _ _ h => h) (Or.inl ⟨by rfl, ?_⟩) ?_ ?_
          rotate_left
          ·intro w'
           go_simp
           with_reducible rfl
          rotate_left
          ·simp only [Act.put, sS_, sZ_, sC_, i64_w, i32_w]
           rfl
          refine pure_ (i := 17) (N := some 29) (v := ?_) (a' := ?_) D17_90 rfl rfl (any_of HT_.out (by kernel_rfl)) (fun _ _ _ h => h) (Or.inl ⟨by rfl, ?_⟩) ?_ ?_
          rotate_left
          ·intro w'
           go_simp
           with_reducible rfl
          rotate_left
          ·simp only [Act.put, sS_, sZ_, sC_, i64_w, i32_w]
           rfl
          refine pure_ (i := 18) (N := some 30) (v := ?_) (a' := ?_) D18_90 rfl rfl (any_of HT_.out (by kernel_rfl)) (fun _ _ _ h => h) (Or.inl ⟨by rfl, ?_⟩) ?_ ?_
          rotate_left
          ·intro w'
           go_simp
           with_reducible rfl
          rotate_left
          ·simp only [Act.put, sS_, sZ_, sC_, i64_w, i32_w]
           rfl
          refine take_ (i := 15) (N := some 27) (v := ?_) (a' := ?_) D19_90 rfl rfl (take_ofW HT_.out HW_.out (by kernel_rfl)) (fun _ _ _ h => h) (Or.inl ⟨by rfl, ?_⟩) hHeld ?_ ?_
          rotate_left
          ·rintro w' ⟨s0, s1, s2, s3, s4, s5, s6, s7, s8, s9, s10, s11, s12, s13, s14⟩
           go_simp
           with_reducible rfl
          rotate_left
          ·simp only [Act.put, sS_, sZ_, sC_, i64_w, i32_w]
           rfl
          refine take_ (i := 19) (N := some 31) (v := ?_) (a' := ?_) D20_90 rfl rfl (take_ofW HT_.out HW_.out (by kernel_rfl)) (fun _ _ _ h => h) (Or.inl ⟨by rfl, ?_⟩) hHeld ?_ ?_
          rotate_left
          ·rintro w' ⟨s0, s1, s2, s3, s4, s5, s6, s7, s8, s9, s10, s11, s12, s13, s14⟩
           go_simp
           with_reducible rfl
          rotate_left
          ·simp only [Act.put, sS_, sZ_, sC_, i64_w, i32_w]
           rfl
          refine one_ (i := 20) (N := some 32) D21_90 rfl rfl (one_of HT_.out (by kernel_rfl)) (by decide) (fun K hK => ?_)
          refine goes_ Try.func103 (by kernel_rfl) rfl #[.agg #[.int .i64 ((rd_T35 l1 (ji9)).f0), .int .i64 ((rd_T35 l1 (ji9)).f1), .int .i64 ((rd_T35 l1 (ji9)).f2), .int .i64 ((rd_T35 l1 (ji9)).f3)], .agg #[.int .i64 ((rd_T35 l1 x5_1).f0), .int .i64 ((rd_T35 l1 x5_1).f1), .int .i64 ((rd_T35 l1 x5_1).f2), .int .i64 ((rd_T35 l1 x5_1).f3)]] (by rfl) rfl rfl (by (try simp only [List.map_toArray, List.map_cons, List.map_nil]); first | done | (simp only [hji9]; rfl) | rfl | (simp only [List.length_drop, List.length_take]; rfl)) ?_
          with_reducible refine (spec_l22Before.calls ((rd_T35 l1 (ji9)).f0) ((rd_T35 l1 (ji9)).f1) ((rd_T35 l1 (ji9)).f2) ((rd_T35 l1 (ji9)).f3) ((rd_T35 l1 x5_1).f0) ((rd_T35 l1 x5_1).f1) ((rd_T35 l1 x5_1).f2) ((rd_T35 l1 x5_1).f3) true _ A12.out).mono ?_
          rintro e w16 ⟨rfl, hb⟩
          refine ⟨_, rfl, ?_⟩
          have n0_ := Aside0.mk (blk_below (g := gb782) (o := .cells #[.int .i64 a0_0, .int .i64 a0_1, .slice A0_2 l0_2.length c0_2] 26 (0, 0)) (by (with_reducible repeat (first | refine blk_drewN ?_ _ | refine blk_drew ?_ | refine blk_alloc ?_ _)); exact BK782.out) hb)
          have n1_ := Aside0.mk (below_step (by repeat (first | (with_reducible first | exact HB.out | apply below_alloc | apply pw_below_drewN | apply below_drew1 | refine below_set ?_ GE782.out) | exact HB.out)) hb)
          clear BK782
          clear HB
          have BK782 := n0_
          have HB := n1_
          clear n0_ n1_
          (try clear hb)
          (try clear hb2)
          (try clear hk)
          (try clear hi)
          refine hK.out _ _ ⟨(blk_cell BK782.out 0).trans rfl, (blk_cell BK782.out 1).trans rfl, (blk_cell BK782.out 2).trans rfl, ((HB.out.cell (World.block_lt_of_cell? w _ hw784_0)).trans hw784_0), ((HB.out.cell (World.block_lt_of_cell? w _ hw784_1)).trans hw784_1), ((HB.out.cell (World.block_lt_of_cell? w _ hw784_2)).trans hw784_2), ((HB.out.cell (World.block_lt_of_cell? w _ hw784_3)).trans hw784_3), ((HB.out.cell (World.block_lt_of_cell? w _ hw786_0)).trans hw786_0), ((HB.out.cell (World.block_lt_of_cell? w _ hw786_1)).trans hw786_1), ((HB.out.cell (World.block_lt_of_cell? w _ hw786_2)).trans hw786_2), ((HB.out.cell (World.block_lt_of_cell? w _ hw786_3)).trans hw786_3), ((HB.out.cell (World.block_lt_of_cell? w _ hw787_0)).trans hw787_0), ((HB.out.cell (World.block_lt_of_cell? w _ hw787_1)).trans hw787_1), ((HB.out.cell (World.block_lt_of_cell? w _ hw787_2)).trans hw787_2), ((HB.out.cell (World.block_lt_of_cell? w _ hw787_3)).trans hw787_3)⟩ (fun hHeld => ?_)
          clear hK K
          refine norm_ (a' := ?_) ?_ ?_
          rotate_left
          ·show Act.put _ (some 32) _ = _
           simp only [Act.put, sS_, sZ_, sC_, i64_w, i32_w]
           rfl
          refine pure_ (i := 21) (N := some 33) (v := ?_) (a' := ?_) D22_90 rfl rfl (any_of HT_.out (by kernel_rfl)) (fun _ _ _ h => h) (Or.inl ⟨by rfl, ?_⟩) ?_ ?_
          rotate_left
          ·intro w'
           go_simp
           with_reducible rfl
          rotate_left
          ·simp only [Act.put, sS_, sZ_, sC_, i64_w, i32_w]
           rfl
          refine pure_ (i := 22) (N := some 34) (v := ?_) (a' := ?_) D23_90 rfl rfl (any_of HT_.out (by kernel_rfl)) (fun _ _ _ h => h) (Or.inl ⟨by rfl, ?_⟩) ?_ ?_
          rotate_left
          ·intro w'
           go_simp
           with_reducible rfl
          rotate_left
          ·simp only [Act.put, sS_, sZ_, sC_, i64_w, i32_w]
           rfl
          refine pure_ (i := 23) (N := some 35) (v := ?_) (a' := ?_) D24_90 rfl rfl (any_of HT_.out (by kernel_rfl)) (fun _ _ _ h => h) (Or.inl ⟨by rfl, ?_⟩) ?_ ?_
          rotate_left
          ·intro w'
           go_simp
           with_reducible rfl
          rotate_left
          ·simp only [Act.put, sS_, sZ_, sC_, i64_w, i32_w]
           rfl
          refine done_ (done_of HT_.out (by kernel_rfl)) ?_
          try go_wp2
          go_roundg k1
          case measure => have := HK1.out; omega
          case rel => exact ⟨(wrap64 (x5_1 + 1)), (by first | rfl | (simp; done) | (simp [*]; done)), H', ⟨by have := HK1.out; omega⟩, ⟨by (with_reducible repeat (first | refine blk_drewN ?_ _ | refine blk_drew ?_ | refine blk_alloc ?_ _)); exact BK782.out⟩, ⟨by repeat (first | (with_reducible first | exact HB.out | apply below_alloc | apply pw_below_drewN | apply below_drew1 | refine below_set ?_ GE782.out) | exact HB.out)⟩⟩
         ·replace c13 := Bool.eq_false_iff.mpr c13
          subst c13
          rw [if_neg (show ¬ (false = true) by decide)] at H
          obtain rfl := Option.some.inj H
          try go_wp2
          have n0_ := Aside0.mk (blk_drew BK782.out)
          have n1_ := Aside0.mk (below_drew1 HB.out)
          clear BK782
          clear HB
          have BK782 := n0_
          have HB := n1_
          clear n0_ n1_
          have p784 : 0 ≤ (x5_1 : Int) := of_decide_eq_true (by first | (with_reducible assumption) | assumption)
          have q784 : x5_1 < (l1.length : Int) := of_decide_eq_true (by first | (with_reducible assumption) | assumption)
          obtain ⟨ad784, e784, hx784_0, hx784_1, hx784_2, hx784_3⟩ := at_T35 HR1.out x5_1 p784 q784
          have hw784_3 := hx784_3
          have hw784_2 := hx784_2
          have hw784_1 := hx784_1
          have hw784_0 := hx784_0
          cases e784
          replace hx784_0 := (HB.out.cell (World.block_lt_of_cell? w _ hx784_0)).trans hx784_0
          replace hx784_1 := (HB.out.cell (World.block_lt_of_cell? w _ hx784_1)).trans hx784_1
          replace hx784_2 := (HB.out.cell (World.block_lt_of_cell? w _ hx784_2)).trans hx784_2
          replace hx784_3 := (HB.out.cell (World.block_lt_of_cell? w _ hx784_3)).trans hx784_3
          replace p784 := eq_true p784
          replace q784 := eq_true q784
          have p786 : 0 ≤ ((ji9) : Int) := of_decide_eq_true (by first | (with_reducible assumption) | assumption)
          have q786 : (ji9) < (l1.length : Int) := of_decide_eq_true (by first | (with_reducible assumption) | assumption)
          obtain ⟨ad786, e786, hx786_0, hx786_1, hx786_2, hx786_3⟩ := at_T35 HR1.out (ji9) p786 q786
          have hw786_3 := hx786_3
          have hw786_2 := hx786_2
          have hw786_1 := hx786_1
          have hw786_0 := hx786_0
          obtain rfl : ad784 = ad786 := (by injection e786)
          replace hx786_0 := (HB.out.cell (World.block_lt_of_cell? w _ hx786_0)).trans hx786_0
          replace hx786_1 := (HB.out.cell (World.block_lt_of_cell? w _ hx786_1)).trans hx786_1
          replace hx786_2 := (HB.out.cell (World.block_lt_of_cell? w _ hx786_2)).trans hx786_2
          replace hx786_3 := (HB.out.cell (World.block_lt_of_cell? w _ hx786_3)).trans hx786_3
          replace p786 := eq_true p786
          replace q786 := eq_true q786
          have p787 : 0 ≤ (x5_1 : Int) := of_decide_eq_true (by first | (with_reducible assumption) | assumption)
          have q787 : x5_1 < (l1.length : Int) := of_decide_eq_true (by first | (with_reducible assumption) | assumption)
          obtain ⟨ad787, e787, hx787_0, hx787_1, hx787_2, hx787_3⟩ := at_T35 HR1.out x5_1 p787 q787
          have hw787_3 := hx787_3
          have hw787_2 := hx787_2
          have hw787_1 := hx787_1
          have hw787_0 := hx787_0
          obtain rfl : ad784 = ad787 := (by injection e787)
          replace hx787_0 := (HB.out.cell (World.block_lt_of_cell? w _ hx787_0)).trans hx787_0
          replace hx787_1 := (HB.out.cell (World.block_lt_of_cell? w _ hx787_1)).trans hx787_1
          replace hx787_2 := (HB.out.cell (World.block_lt_of_cell? w _ hx787_2)).trans hx787_2
          replace hx787_3 := (HB.out.cell (World.block_lt_of_cell? w _ hx787_3)).trans hx787_3
          replace p787 := eq_true p787
          replace q787 := eq_true q787
          refine start_ (n := 24) (S := fun w' => w'.cell? ⟨gb782, 0, none⟩ = some (.int .i64 a0_0) ∧ w'.cell? ⟨gb782, 1, none⟩ = some (.int .i64 a0_1) ∧ w'.cell? ⟨gb782, 2, none⟩ = some (.slice A0_2 l0_2.length c0_2) ∧ w'.cell? (ad784.add ((x5_1).toNat * 4)) = some (.int .i64 ((rd_T35 l1 x5_1).f0)) ∧ w'.cell? ⟨(ad784.add ((x5_1).toNat * 4)).block, (ad784.add ((x5_1).toNat * 4)).off + 1, none⟩ = some (.int .i64 ((rd_T35 l1 x5_1).f1)) ∧ w'.cell? ⟨(ad784.add ((x5_1).toNat * 4)).block, (ad784.add ((x5_1).toNat * 4)).off + 2, none⟩ = some (.int .i64 ((rd_T35 l1 x5_1).f2)) ∧ w'.cell? ⟨(ad784.add ((x5_1).toNat * 4)).block, (ad784.add ((x5_1).toNat * 4)).off + 3, none⟩ = some (.int .i64 ((rd_T35 l1 x5_1).f3)) ∧ w'.cell? (ad784.add (((ji9)).toNat * 4)) = some (.int .i64 ((rd_T35 l1 (ji9)).f0)) ∧ w'.cell? ⟨(ad784.add (((ji9)).toNat * 4)).block, (ad784.add (((ji9)).toNat * 4)).off + 1, none⟩ = some (.int .i64 ((rd_T35 l1 (ji9)).f1)) ∧ w'.cell? ⟨(ad784.add (((ji9)).toNat * 4)).block, (ad784.add (((ji9)).toNat * 4)).off + 2, none⟩ = some (.int .i64 ((rd_T35 l1 (ji9)).f2)) ∧ w'.cell? ⟨(ad784.add (((ji9)).toNat * 4)).block, (ad784.add (((ji9)).toNat * 4)).off + 3, none⟩ = some (.int .i64 ((rd_T35 l1 (ji9)).f3)) ∧ w'.cell? (ad784.add ((x5_1).toNat * 4)) = some (.int .i64 ((rd_T35 l1 x5_1).f0)) ∧ w'.cell? ⟨(ad784.add ((x5_1).toNat * 4)).block, (ad784.add ((x5_1).toNat * 4)).off + 1, none⟩ = some (.int .i64 ((rd_T35 l1 x5_1).f1)) ∧ w'.cell? ⟨(ad784.add ((x5_1).toNat * 4)).block, (ad784.add ((x5_1).toNat * 4)).off + 2, none⟩ = some (.int .i64 ((rd_T35 l1 x5_1).f2)) ∧ w'.cell? ⟨(ad784.add ((x5_1).toNat * 4)).block, (ad784.add ((x5_1).toNat * 4)).off + 3, none⟩ = some (.int .i64 ((rd_T35 l1 x5_1).f3))) (ds := []) D0_90 (by kernel_rfl) rfl rfl ⟨(blk_cell BK782.out 0).trans rfl, (blk_cell BK782.out 1).trans rfl, (blk_cell BK782.out 2).trans rfl, ((HB.out.cell (World.block_lt_of_cell? w _ hw784_0)).trans hw784_0), ((HB.out.cell (World.block_lt_of_cell? w _ hw784_1)).trans hw784_1), ((HB.out.cell (World.block_lt_of_cell? w _ hw784_2)).trans hw784_2), ((HB.out.cell (World.block_lt_of_cell? w _ hw784_3)).trans hw784_3), ((HB.out.cell (World.block_lt_of_cell? w _ hw786_0)).trans hw786_0), ((HB.out.cell (World.block_lt_of_cell? w _ hw786_1)).trans hw786_1), ((HB.out.cell (World.block_lt_of_cell? w _ hw786_2)).trans hw786_2), ((HB.out.cell (World.block_lt_of_cell? w _ hw786_3)).trans hw786_3), ((HB.out.cell (World.block_lt_of_cell? w _ hw787_0)).trans hw787_0), ((HB.out.cell (World.block_lt_of_cell? w _ hw787_1)).trans hw787_1), ((HB.out.cell (World.block_lt_of_cell? w _ hw787_2)).trans hw787_2), ((HB.out.cell (World.block_lt_of_cell? w _ hw787_3)).trans hw787_3)⟩ (fun hHeld => ?_); refine with_tabW spec_l22Good.tab4 spec_l22Good.bits4 (fun HT_ HW_ => ?_)
          generalize wr.drew = w17 at BK782 HB hx784_0 hx784_1 hx784_2 hx784_3 hx786_0 hx786_1 hx786_2 hx786_3 hx787_0 hx787_1 hx787_2 hx787_3 hHeld ⊢
          refine pure_ (i := 1) (N := some 13) (v := ?_) (a' := ?_) D1_90 rfl rfl (any_of HT_.out (by kernel_rfl)) (fun _ _ _ h => h) (Or.inl ⟨by rfl, ?_⟩) ?_ ?_
          rotate_left
          ·intro w'
           go_simp
           with_reducible rfl
          rotate_left
          ·simp only [Act.put, sS_, sZ_, sC_, i64_w, i32_w]
           rfl
          refine pure_ (i := 2) (N := some 14) (v := ?_) (a' := ?_) D2_90 rfl rfl (any_of HT_.out (by kernel_rfl)) (fun _ _ _ h => h) (Or.inl ⟨by rfl, ?_⟩) ?_ ?_
          rotate_left
          ·intro w'
           go_simp
           with_reducible rfl
          rotate_left
          ·simp only [Act.put, sS_, sZ_, sC_, i64_w, i32_w]
           rfl
          refine pure_ (i := 3) (N := some 15) (v := ?_) (a' := ?_) D3_90 rfl rfl (any_of HT_.out (by kernel_rfl)) (fun _ _ _ h => h) (Or.inl ⟨by rfl, ?_⟩) ?_ ?_
          rotate_left
          ·intro w'
           go_simp
           with_reducible rfl
          rotate_left
          ·simp only [Act.put, sS_, sZ_, sC_, i64_w, i32_w]
           rfl
          refine take_ (i := 0) (N := some 12) (v := ?_) (a' := ?_) D4_90 rfl rfl (take_ofW HT_.out HW_.out (by kernel_rfl)) (fun _ _ _ h => h) (Or.inl ⟨by rfl, ?_⟩) hHeld ?_ ?_
          rotate_left
          ·rintro w' ⟨s0, s1, s2, s3, s4, s5, s6, s7, s8, s9, s10, s11, s12, s13, s14⟩
           go_simp
           with_reducible rfl
          rotate_left
          ·simp only [Act.put, sS_, sZ_, sC_, i64_w, i32_w]
           rfl
          refine take_ (i := 4) (N := some 16) (v := ?_) (a' := ?_) D5_90 rfl rfl (take_ofW HT_.out HW_.out (by kernel_rfl)) (fun _ _ _ h => h) (Or.inl ⟨by rfl, ?_⟩) hHeld ?_ ?_
          rotate_left
          ·rintro w' ⟨s0, s1, s2, s3, s4, s5, s6, s7, s8, s9, s10, s11, s12, s13, s14⟩
           go_simp
           with_reducible rfl
          rotate_left
          ·simp only [Act.put, sS_, sZ_, sC_, i64_w, i32_w]
           rfl
          refine one_ (i := 5) (N := some 17) D6_90 rfl rfl (one_of HT_.out (by kernel_rfl)) (by decide) (fun K hK => ?_)
          refine goes_ Try.func106 (by kernel_rfl) rfl #[.agg #[.int .i64 a0_0, .int .i64 a0_1, .slice A0_2 l0_2.length c0_2], .agg #[.int .i64 ((rd_T35 l1 x5_1).f0), .int .i64 ((rd_T35 l1 x5_1).f1), .int .i64 ((rd_T35 l1 x5_1).f2), .int .i64 ((rd_T35 l1 x5_1).f3)]] (by rfl) rfl rfl (by (try simp only [List.map_toArray, List.map_cons, List.map_nil]); first | done | rfl | (simp only [List.length_drop, List.length_take]; rfl)) ?_
          with_reducible refine (spec_l22One.calls k1 a0_0 a0_1 _ _ l0_2 ((rd_T35 l1 x5_1).f0) ((rd_T35 l1 x5_1).f1) ((rd_T35 l1 x5_1).f2) ((rd_T35 l1 x5_1).f3) true _ ?side1 ?side2 A6.out).mono ?_
          (case side1 => repeat (first | exact (Kd.C_below HR0_2.out HB.out) | (with_reducible refine Kd.C_alloc ?_ _) | (with_reducible refine Kd.C_drewN ?_ _) | (with_reducible refine Kd.C_drew ?_)))
          (case side2 => exact HC0_2.out)
          rintro e w18 ⟨rfl, hb⟩
          refine ⟨_, rfl, ?_⟩
          have n0_ := Aside0.mk (blk_below (g := gb782) (o := .cells #[.int .i64 a0_0, .int .i64 a0_1, .slice A0_2 l0_2.length c0_2] 26 (0, 0)) (by (with_reducible repeat (first | refine blk_drewN ?_ _ | refine blk_drew ?_ | refine blk_alloc ?_ _)); exact BK782.out) hb)
          have n1_ := Aside0.mk (below_step (by repeat (first | (with_reducible first | exact HB.out | apply below_alloc | apply pw_below_drewN | apply below_drew1 | refine below_set ?_ GE782.out) | exact HB.out)) hb)
          clear BK782
          clear HB
          have BK782 := n0_
          have HB := n1_
          clear n0_ n1_
          (try clear hb)
          (try clear hb2)
          (try clear hk)
          (try clear hi)
          refine hK.out _ _ ⟨(blk_cell BK782.out 0).trans rfl, (blk_cell BK782.out 1).trans rfl, (blk_cell BK782.out 2).trans rfl, ((HB.out.cell (World.block_lt_of_cell? w _ hw784_0)).trans hw784_0), ((HB.out.cell (World.block_lt_of_cell? w _ hw784_1)).trans hw784_1), ((HB.out.cell (World.block_lt_of_cell? w _ hw784_2)).trans hw784_2), ((HB.out.cell (World.block_lt_of_cell? w _ hw784_3)).trans hw784_3), ((HB.out.cell (World.block_lt_of_cell? w _ hw786_0)).trans hw786_0), ((HB.out.cell (World.block_lt_of_cell? w _ hw786_1)).trans hw786_1), ((HB.out.cell (World.block_lt_of_cell? w _ hw786_2)).trans hw786_2), ((HB.out.cell (World.block_lt_of_cell? w _ hw786_3)).trans hw786_3), ((HB.out.cell (World.block_lt_of_cell? w _ hw787_0)).trans hw787_0), ((HB.out.cell (World.block_lt_of_cell? w _ hw787_1)).trans hw787_1), ((HB.out.cell (World.block_lt_of_cell? w _ hw787_2)).trans hw787_2), ((HB.out.cell (World.block_lt_of_cell? w _ hw787_3)).trans hw787_3)⟩ (fun hHeld => ?_)
          clear hK K
          refine norm_ (a' := ?_) ?_ ?_
          rotate_left
          ·show Act.put _ (some 17) _ = _
           simp only [Act.put, sS_, sZ_, sC_, i64_w, i32_w]
           rfl
          refine pure_ (i := 6) (N := some 18) (v := ?_) (a' := ?_) D7_90 rfl rfl (any_of HT_.out (by kernel_rfl)) (fun _ _ _ h => h) (Or.inl ⟨by rfl, ?_⟩) ?_ ?_
          rotate_left
          ·intro w'
           go_simp
           with_reducible rfl
          rotate_left
          ·simp only [Act.put, sS_, sZ_, sC_, i64_w, i32_w]
           rfl
          refine pure_ (i := 7) (N := some 19) (v := ?_) (a' := ?_) D8_90 rfl rfl (any_of HT_.out (by kernel_rfl)) (fun _ _ _ h => h) (Or.inl ⟨by rfl, ?_⟩) ?_ ?_
          rotate_left
          ·intro w'
           go_simp
           with_reducible rfl
          rotate_left
          ·simp only [Act.put, sS_, sZ_, sC_, i64_w, i32_w]
           rfl
          refine pure_ (i := 8) (N := some 20) (v := ?_) (a' := ?_) D9_90 rfl rfl (any_of HT_.out (by kernel_rfl)) (fun _ _ _ h => h) (Or.inl ⟨by rfl, ?_⟩) ?_ ?_
          rotate_left
          ·intro w'
           go_simp
           with_reducible rfl
          rotate_left
          ·simp only [Act.put, sS_, sZ_, sC_, i64_w, i32_w]
           rfl
          refine pure_ (i := 9) (N := some 21) (v := ?_) (a' := ?_) D10_90 rfl rfl (any_of HT_.out (by kernel_rfl)) (fun _ _ _ h => h) (Or.inl ⟨by rfl, ?_⟩) ?_ ?_
          rotate_left
          ·intro w'
           go_simp
           with_reducible rfl
          rotate_left
          ·simp only [Act.put, sS_, sZ_, sC_, i64_w, i32_w]
           rfl
          refine pure_ (i := 10) (N := some 22) (v := ?_) (a' := ?_) D11_90 rfl rfl (any_of HT_.out (by kernel_rfl)) (fun _ _ _ h => h) (Or.inl ⟨by rfl, ?_⟩) ?_ ?_
          rotate_left
          ·intro w'
           go_simp
           with_reducible rfl
          rotate_left
          ·simp only [Act.put, sS_, sZ_, sC_, i64_w, i32_w]
           rfl
          refine pure_ (i := 11) (N := some 23) (v := ?_) (a' := ?_) D12_90 rfl rfl (any_of HT_.out (by kernel_rfl)) (fun _ _ _ h => h) (Or.inl ⟨by rfl, ?_⟩) ?_ ?_
          rotate_left
          ·intro w'
           go_simp
           with_reducible rfl
          rotate_left
          ·simp only [Act.put, sS_, sZ_, sC_, i64_w, i32_w]
           rfl
          refine pure_ (i := 12) (N := some 24) (v := ?_) (a' := ?_) D13_90 rfl rfl (any_of HT_.out (by kernel_rfl)) (fun _ _ _ h => h) (Or.inl ⟨by rfl, ?_⟩) ?_ ?_
          rotate_left
          ·intro w'
           go_simp
           with_reducible rfl
          rotate_left
          ·simp only [Act.put, sS_, sZ_, sC_, i64_w, i32_w]
           rfl
          refine pure_ (i := 13) (N := some 25) (v := ?_) (a' := ?_) D14_90 rfl rfl (any_of HT_.out (by kernel_rfl)) (fun _ _ _ h => h) (Or.inl ⟨by rfl, ?_⟩) ?_ ?_
          rotate_left
          ·intro w'
           go_simp
           with_reducible rfl
          rotate_left
          ·simp only [Act.put, sS_, sZ_, sC_, i64_w, i32_w]
           rfl
          refine pure_ (i := 14) (N := some 26) (v := ?_) (a' := ?_) D15_90 rfl rfl (any_of HT_.out (by kernel_rfl)) (fun _ _ _ h => h) (Or.inl ⟨by rfl, ?_⟩) ?_ ?_
          rotate_left
          ·intro w'
           go_simp
           with_reducible rfl
          rotate_left
          ·simp only [Act.put, sS_, sZ_, sC_, i64_w, i32_w]
           rfl
          refine pure_ (i := 16) (N := some 28) (v := ?_) (a' := ?_) D16_90 rfl rfl (any_of HT_.out (by kernel_rfl)) (fun _ _ _ h => h) (Or.inl ⟨by rfl, ?_⟩) ?_ ?_
          rotate_left
          ·intro w'
           go_simp
           with_reducible rfl
          rotate_left
          ·simp only [Act.put, sS_, sZ_, sC_, i64_w, i32_w]
           rfl
          refine pure_ (i := 17) (N := some 29) (v := ?_) (a' := ?_) D17_90 rfl rfl (any_of HT_.out (by kernel_rfl)) (fun _ _ _ h => h) (Or.inl ⟨by rfl, ?_⟩) ?_ ?_
          rotate_left
          ·intro w'
           go_simp
           with_reducible rfl
          rotate_left
          ·simp only [Act.put, sS_, sZ_, sC_, i64_w, i32_w]
           rfl
          refine pure_ (i := 18) (N := some 30) (v := ?_) (a' := ?_) D18_90 rfl rfl (any_of HT_.out (by kernel_rfl)) (fun _ _ _ h => h) (Or.inl ⟨by rfl, ?_⟩) ?_ ?_
          rotate_left
          ·intro w'
           go_simp
           with_reducible rfl
          rotate_left
          ·simp only [Act.put, sS_, sZ_, sC_, i64_w, i32_w]
           rfl
          refine take_ (i := 15) (N := some 27) (v := ?_) (a' := ?_) D19_90 rfl rfl (take_ofW HT_.out HW_.out (by kernel_rfl)) (fun _ _ _ h => h) (Or.inl ⟨by rfl, ?_⟩) hHeld ?_ ?_
          rotate_left
          ·rintro w' ⟨s0, s1, s2, s3, s4, s5, s6, s7, s8, s9, s10, s11, s12, s13, s14⟩
           go_simp
           with_reducible rfl
          rotate_left
          ·simp only [Act.put, sS_, sZ_, sC_, i64_w, i32_w]
           rfl
          refine take_ (i := 19) (N := some 31) (v := ?_) (a' := ?_) D20_90 rfl rfl (take_ofW HT_.out HW_.out (by kernel_rfl)) (fun _ _ _ h => h) (Or.inl ⟨by rfl, ?_⟩) hHeld ?_ ?_
          rotate_left
          ·rintro w' ⟨s0, s1, s2, s3, s4, s5, s6, s7, s8, s9, s10, s11, s12, s13, s14⟩
           go_simp
           with_reducible rfl
          rotate_left
          ·simp only [Act.put, sS_, sZ_, sC_, i64_w, i32_w]
           rfl
          refine one_ (i := 20) (N := some 32) D21_90 rfl rfl (one_of HT_.out (by kernel_rfl)) (by decide) (fun K hK => ?_)
          refine goes_ Try.func103 (by kernel_rfl) rfl #[.agg #[.int .i64 ((rd_T35 l1 (ji9)).f0), .int .i64 ((rd_T35 l1 (ji9)).f1), .int .i64 ((rd_T35 l1 (ji9)).f2), .int .i64 ((rd_T35 l1 (ji9)).f3)], .agg #[.int .i64 ((rd_T35 l1 x5_1).f0), .int .i64 ((rd_T35 l1 x5_1).f1), .int .i64 ((rd_T35 l1 x5_1).f2), .int .i64 ((rd_T35 l1 x5_1).f3)]] (by rfl) rfl rfl (by (try simp only [List.map_toArray, List.map_cons, List.map_nil]); first | done | (simp only [hji9]; rfl) | rfl | (simp only [List.length_drop, List.length_take]; rfl)) ?_
          with_reducible refine (spec_l22Before.calls ((rd_T35 l1 (ji9)).f0) ((rd_T35 l1 (ji9)).f1) ((rd_T35 l1 (ji9)).f2) ((rd_T35 l1 (ji9)).f3) ((rd_T35 l1 x5_1).f0) ((rd_T35 l1 x5_1).f1) ((rd_T35 l1 x5_1).f2) ((rd_T35 l1 x5_1).f3) false _ A12.out).mono ?_
          rintro e w19 ⟨rfl, hb⟩
          refine ⟨_, rfl, ?_⟩
          have n0_ := Aside0.mk (blk_below (g := gb782) (o := .cells #[.int .i64 a0_0, .int .i64 a0_1, .slice A0_2 l0_2.length c0_2] 26 (0, 0)) (by (with_reducible repeat (first | refine blk_drewN ?_ _ | refine blk_drew ?_ | refine blk_alloc ?_ _)); exact BK782.out) hb)
          have n1_ := Aside0.mk (below_step (by repeat (first | (with_reducible first | exact HB.out | apply below_alloc | apply pw_below_drewN | apply below_drew1 | refine below_set ?_ GE782.out) | exact HB.out)) hb)
          clear BK782
          clear HB
          have BK782 := n0_
          have HB := n1_
          clear n0_ n1_
          (try clear hb)
          (try clear hb2)
          (try clear hk)
          (try clear hi)
          refine hK.out _ _ ⟨(blk_cell BK782.out 0).trans rfl, (blk_cell BK782.out 1).trans rfl, (blk_cell BK782.out 2).trans rfl, ((HB.out.cell (World.block_lt_of_cell? w _ hw784_0)).trans hw784_0), ((HB.out.cell (World.block_lt_of_cell? w _ hw784_1)).trans hw784_1), ((HB.out.cell (World.block_lt_of_cell? w _ hw784_2)).trans hw784_2), ((HB.out.cell (World.block_lt_of_cell? w _ hw784_3)).trans hw784_3), ((HB.out.cell (World.block_lt_of_cell? w _ hw786_0)).trans hw786_0), ((HB.out.cell (World.block_lt_of_cell? w _ hw786_1)).trans hw786_1), ((HB.out.cell (World.block_lt_of_cell? w _ hw786_2)).trans hw786_2), ((HB.out.cell (World.block_lt_of_cell? w _ hw786_3)).trans hw786_3), ((HB.out.cell (World.block_lt_of_cell? w _ hw787_0)).trans hw787_0), ((HB.out.cell (World.block_lt_of_cell? w _ hw787_1)).trans hw787_1), ((HB.out.cell (World.block_lt_of_cell? w _ hw787_2)).trans hw787_2), ((HB.out.cell (World.block_lt_of_cell? w _ hw787_3)).trans hw787_3)⟩ (fun hHeld => ?_)
          clear hK K
          refine norm_ (a' := ?_) ?_ ?_
          rotate_left
          ·show Act.put _ (some 32) _ = _
           simp only [Act.put, sS_, sZ_, sC_, i64_w, i32_w]
           rfl
          refine pure_ (i := 21) (N := some 33) (v := ?_) (a' := ?_) D22_90 rfl rfl (any_of HT_.out (by kernel_rfl)) (fun _ _ _ h => h) (Or.inl ⟨by rfl, ?_⟩) ?_ ?_
          rotate_left
          ·intro w'
           go_simp
           with_reducible rfl
          rotate_left
          ·simp only [Act.put, sS_, sZ_, sC_, i64_w, i32_w]
           rfl
          refine pure_ (i := 22) (N := some 34) (v := ?_) (a' := ?_) D23_90 rfl rfl (any_of HT_.out (by kernel_rfl)) (fun _ _ _ h => h) (Or.inl ⟨by rfl, ?_⟩) ?_ ?_
          rotate_left
          ·intro w'
           go_simp
           with_reducible rfl
          rotate_left
          ·simp only [Act.put, sS_, sZ_, sC_, i64_w, i32_w]
           rfl
          refine pure_ (i := 23) (N := some 35) (v := ?_) (a' := ?_) D24_90 rfl rfl (any_of HT_.out (by kernel_rfl)) (fun _ _ _ h => h) (Or.inl ⟨by rfl, ?_⟩) ?_ ?_
          rotate_left
          ·intro w'
           go_simp
           with_reducible rfl
          rotate_left
          ·simp only [Act.put, sS_, sZ_, sC_, i64_w, i32_w]
           rfl
          refine done_ (done_of HT_.out (by kernel_rfl)) ?_
          try go_wp2
          go_ret
          exact ⟨by first | rfl | (simp [errW_none, errW_some] <;> rfl) | (simp only [← hji9]; first | rfl | (simp [errW_none, errW_some] <;> rfl)) | (simp [*, errW_none, errW_some] <;> rfl) | (simp [wrap64]; done), by repeat (first | (with_reducible first | exact HB.out | apply below_alloc | apply pw_below_drewN | apply below_drew1 | refine below_set ?_ GE782.out) | exact HB.out)⟩
        ·rw [if_neg c11] at H
         exact absurd H (by simp)
       ·rw [if_neg c10] at H
        exact absurd H (by simp)
      ·rw [if_neg c8] at H
       have c8b0 : decide (0 < x5_1) = false := decide_eq_false c8
       clear c8
       have H' := Aside0.mk H
       clear H
       try go_wp2
       have n0_ := Aside0.mk (blk_drew BK782.out)
       have n1_ := Aside0.mk (below_drew1 HB.out)
       clear BK782
       clear HB
       have BK782 := n0_
       have HB := n1_
       clear n0_ n1_
       have p784 : 0 ≤ (x5_1 : Int) := of_decide_eq_true (by first | (with_reducible assumption) | assumption)
       have q784 : x5_1 < (l1.length : Int) := of_decide_eq_true (by first | (with_reducible assumption) | assumption)
       obtain ⟨ad784, e784, hx784_0, hx784_1, hx784_2, hx784_3⟩ := at_T35 HR1.out x5_1 p784 q784
       have hw784_3 := hx784_3
       have hw784_2 := hx784_2
       have hw784_1 := hx784_1
       have hw784_0 := hx784_0
       cases e784
       replace hx784_0 := (HB.out.cell (World.block_lt_of_cell? w _ hx784_0)).trans hx784_0
       replace hx784_1 := (HB.out.cell (World.block_lt_of_cell? w _ hx784_1)).trans hx784_1
       replace hx784_2 := (HB.out.cell (World.block_lt_of_cell? w _ hx784_2)).trans hx784_2
       replace hx784_3 := (HB.out.cell (World.block_lt_of_cell? w _ hx784_3)).trans hx784_3
       replace p784 := eq_true p784
       replace q784 := eq_true q784
       refine start_ (n := 24) (S := fun w' => w'.cell? ⟨gb782, 0, none⟩ = some (.int .i64 a0_0) ∧ w'.cell? ⟨gb782, 1, none⟩ = some (.int .i64 a0_1) ∧ w'.cell? ⟨gb782, 2, none⟩ = some (.slice A0_2 l0_2.length c0_2) ∧ w'.cell? (ad784.add ((x5_1).toNat * 4)) = some (.int .i64 ((rd_T35 l1 x5_1).f0)) ∧ w'.cell? ⟨(ad784.add ((x5_1).toNat * 4)).block, (ad784.add ((x5_1).toNat * 4)).off + 1, none⟩ = some (.int .i64 ((rd_T35 l1 x5_1).f1)) ∧ w'.cell? ⟨(ad784.add ((x5_1).toNat * 4)).block, (ad784.add ((x5_1).toNat * 4)).off + 2, none⟩ = some (.int .i64 ((rd_T35 l1 x5_1).f2)) ∧ w'.cell? ⟨(ad784.add ((x5_1).toNat * 4)).block, (ad784.add ((x5_1).toNat * 4)).off + 3, none⟩ = some (.int .i64 ((rd_T35 l1 x5_1).f3))) (ds := []) D0_90 (by kernel_rfl) rfl rfl ⟨(blk_cell BK782.out 0).trans rfl, (blk_cell BK782.out 1).trans rfl, (blk_cell BK782.out 2).trans rfl, ((HB.out.cell (World.block_lt_of_cell? w _ hw784_0)).trans hw784_0), ((HB.out.cell (World.block_lt_of_cell? w _ hw784_1)).trans hw784_1), ((HB.out.cell (World.block_lt_of_cell? w _ hw784_2)).trans hw784_2), ((HB.out.cell (World.block_lt_of_cell? w _ hw784_3)).trans hw784_3)⟩ (fun hHeld => ?_); refine with_tabW spec_l22Good.tab4 spec_l22Good.bits4 (fun HT_ HW_ => ?_)
       generalize wr.drew = w20 at BK782 HB hx784_0 hx784_1 hx784_2 hx784_3 hHeld ⊢
       refine pure_ (i := 1) (N := some 13) (v := ?_) (a' := ?_) D1_90 rfl rfl (any_of HT_.out (by kernel_rfl)) (fun _ _ _ h => h) (Or.inl ⟨by rfl, ?_⟩) ?_ ?_
       rotate_left
       ·intro w'
        go_simp
        with_reducible rfl
       rotate_left
       ·simp only [Act.put, sS_, sZ_, sC_, i64_w, i32_w]
        rfl
       refine pure_ (i := 2) (N := some 14) (v := ?_) (a' := ?_) D2_90 rfl rfl (any_of HT_.out (by kernel_rfl)) (fun _ _ _ h => h) (Or.inl ⟨by rfl, ?_⟩) ?_ ?_
       rotate_left
       ·intro w'
        go_simp
        with_reducible rfl
       rotate_left
       ·simp only [Act.put, sS_, sZ_, sC_, i64_w, i32_w]
        rfl
       refine pure_ (i := 3) (N := some 15) (v := ?_) (a' := ?_) D3_90 rfl rfl (any_of HT_.out (by kernel_rfl)) (fun _ _ _ h => h) (Or.inl ⟨by rfl, ?_⟩) ?_ ?_
       rotate_left
       ·intro w'
        go_simp
        with_reducible rfl
       rotate_left
       ·simp only [Act.put, sS_, sZ_, sC_, i64_w, i32_w]
        rfl
       refine take_ (i := 0) (N := some 12) (v := ?_) (a' := ?_) D4_90 rfl rfl (take_ofW HT_.out HW_.out (by kernel_rfl)) (fun _ _ _ h => h) (Or.inl ⟨by rfl, ?_⟩) hHeld ?_ ?_
       rotate_left
       ·rintro w' ⟨s0, s1, s2, s3, s4, s5, s6⟩
        go_simp
        with_reducible rfl
       rotate_left
       ·simp only [Act.put, sS_, sZ_, sC_, i64_w, i32_w]
        rfl
       refine take_ (i := 4) (N := some 16) (v := ?_) (a' := ?_) D5_90 rfl rfl (take_ofW HT_.out HW_.out (by kernel_rfl)) (fun _ _ _ h => h) (Or.inl ⟨by rfl, ?_⟩) hHeld ?_ ?_
       rotate_left
       ·rintro w' ⟨s0, s1, s2, s3, s4, s5, s6⟩
        go_simp
        with_reducible rfl
       rotate_left
       ·simp only [Act.put, sS_, sZ_, sC_, i64_w, i32_w]
        rfl
       refine one_ (i := 5) (N := some 17) D6_90 rfl rfl (one_of HT_.out (by kernel_rfl)) (by decide) (fun K hK => ?_)
       refine goes_ Try.func106 (by kernel_rfl) rfl #[.agg #[.int .i64 a0_0, .int .i64 a0_1, .slice A0_2 l0_2.length c0_2], .agg #[.int .i64 ((rd_T35 l1 x5_1).f0), .int .i64 ((rd_T35 l1 x5_1).f1), .int .i64 ((rd_T35 l1 x5_1).f2), .int .i64 ((rd_T35 l1 x5_1).f3)]] (by rfl) rfl rfl (by (try simp only [List.map_toArray, List.map_cons, List.map_nil]); first | done | rfl | (simp only [List.length_drop, List.length_take]; rfl)) ?_
       with_reducible refine (spec_l22One.calls k1 a0_0 a0_1 _ _ l0_2 ((rd_T35 l1 x5_1).f0) ((rd_T35 l1 x5_1).f1) ((rd_T35 l1 x5_1).f2) ((rd_T35 l1 x5_1).f3) true _ ?side1 ?side2 A6.out).mono ?_
       (case side1 => repeat (first | exact (Kd.C_below HR0_2.out HB.out) | (with_reducible refine Kd.C_alloc ?_ _) | (with_reducible refine Kd.C_drewN ?_ _) | (with_reducible refine Kd.C_drew ?_)))
       (case side2 => exact HC0_2.out)
       rintro e w21 ⟨rfl, hb⟩
       refine ⟨_, rfl, ?_⟩
       have n0_ := Aside0.mk (blk_below (g := gb782) (o := .cells #[.int .i64 a0_0, .int .i64 a0_1, .slice A0_2 l0_2.length c0_2] 26 (0, 0)) (by (with_reducible repeat (first | refine blk_drewN ?_ _ | refine blk_drew ?_ | refine blk_alloc ?_ _)); exact BK782.out) hb)
       have n1_ := Aside0.mk (below_step (by repeat (first | (with_reducible first | exact HB.out | apply below_alloc | apply pw_below_drewN | apply below_drew1 | refine below_set ?_ GE782.out) | exact HB.out)) hb)
       clear BK782
       clear HB
       have BK782 := n0_
       have HB := n1_
       clear n0_ n1_
       (try clear hb)
       (try clear hb2)
       (try clear hk)
       (try clear hi)
       refine hK.out _ _ ⟨(blk_cell BK782.out 0).trans rfl, (blk_cell BK782.out 1).trans rfl, (blk_cell BK782.out 2).trans rfl, ((HB.out.cell (World.block_lt_of_cell? w _ hw784_0)).trans hw784_0), ((HB.out.cell (World.block_lt_of_cell? w _ hw784_1)).trans hw784_1), ((HB.out.cell (World.block_lt_of_cell? w _ hw784_2)).trans hw784_2), ((HB.out.cell (World.block_lt_of_cell? w _ hw784_3)).trans hw784_3)⟩ (fun hHeld => ?_)
       clear hK K
       refine norm_ (a' := ?_) ?_ ?_
       rotate_left
       ·show Act.put _ (some 17) _ = _
        simp only [Act.put, sS_, sZ_, sC_, i64_w, i32_w]
        rfl
       refine pure_ (i := 6) (N := some 18) (v := ?_) (a' := ?_) D7_90 rfl rfl (any_of HT_.out (by kernel_rfl)) (fun _ _ _ h => h) (Or.inl ⟨by rfl, ?_⟩) ?_ ?_
       rotate_left
       ·intro w'
        go_simp
        with_reducible rfl
       rotate_left
       ·simp only [Act.put, sS_, sZ_, sC_, i64_w, i32_w]
        rfl
       refine pure_ (i := 7) (N := some 19) (v := ?_) (a' := ?_) D8_90 rfl rfl (any_of HT_.out (by kernel_rfl)) (fun _ _ _ h => h) (Or.inl ⟨by rfl, ?_⟩) ?_ ?_
       rotate_left
       ·intro w'
        go_simp
        with_reducible rfl
       rotate_left
       ·simp only [Act.put, sS_, sZ_, sC_, i64_w, i32_w]
        rfl
       refine pure_ (i := 8) (N := some 20) (v := ?_) (a' := ?_) D9_90 rfl rfl (any_of HT_.out (by kernel_rfl)) (fun _ _ _ h => h) (Or.inl ⟨by rfl, ?_⟩) ?_ ?_
       rotate_left
       ·intro w'
        go_simp
        with_reducible rfl
       rotate_left
       ·simp only [Act.put, sS_, sZ_, sC_, i64_w, i32_w]
        rfl
       refine pure_ (i := 9) (N := some 21) (v := ?_) (a' := ?_) D10_90 rfl rfl (any_of HT_.out (by kernel_rfl)) (fun _ _ _ h => h) (Or.inl ⟨by rfl, ?_⟩) ?_ ?_
       rotate_left
       ·intro w'
        go_simp
        with_reducible rfl
       rotate_left
       ·simp only [Act.put, sS_, sZ_, sC_, i64_w, i32_w]
        rfl
       refine pure_ (i := 10) (N := some 22) (v := ?_) (a' := ?_) D11_90 rfl rfl (any_of HT_.out (by kernel_rfl)) (fun _ _ _ h => h) (Or.inl ⟨by rfl, ?_⟩) ?_ ?_
       rotate_left
       ·intro w'
        go_simp
        with_reducible rfl
       rotate_left
       ·simp only [Act.put, sS_, sZ_, sC_, i64_w, i32_w]
        rfl
       refine pure_ (i := 11) (N := some 23) (v := undef) (a' := ?_) D12_90 rfl rfl (any_of HT_.out (by kernel_rfl)) (fun _ _ _ h => h) (Or.inr ⟨by rfl, rfl⟩) ?_ ?_
       rotate_left
       ·simp only [Act.put, sS_, sZ_, sC_, i64_w, i32_w]
        rfl
       refine pure_ (i := 12) (N := some 24) (v := undef) (a' := ?_) D13_90 rfl rfl (any_of HT_.out (by kernel_rfl)) (fun _ _ _ h => h) (Or.inr ⟨by rfl, rfl⟩) ?_ ?_
       rotate_left
       ·simp only [Act.put, sS_, sZ_, sC_, i64_w, i32_w]
        rfl
       refine pure_ (i := 13) (N := some 25) (v := undef) (a' := ?_) D14_90 rfl rfl (any_of HT_.out (by kernel_rfl)) (fun _ _ _ h => h) (Or.inr ⟨by rfl, rfl⟩) ?_ ?_
       rotate_left
       ·simp only [Act.put, sS_, sZ_, sC_, i64_w, i32_w]
        rfl
       refine pure_ (i := 14) (N := some 26) (v := undef) (a' := ?_) D15_90 rfl rfl (any_of HT_.out (by kernel_rfl)) (fun _ _ _ h => h) (Or.inr ⟨by rfl, rfl⟩) ?_ ?_
       rotate_left
       ·simp only [Act.put, sS_, sZ_, sC_, i64_w, i32_w]
        rfl
       refine pure_ (i := 15) (N := some 27) (v := undef) (a' := ?_) D25_90 rfl rfl (any_of HT_.out (by kernel_rfl)) (fun _ _ _ h => h) (Or.inr ⟨by rfl, rfl⟩) ?_ ?_
       rotate_left
       ·simp only [Act.put, sS_, sZ_, sC_, i64_w, i32_w]
        rfl
       refine pure_ (i := 16) (N := some 28) (v := undef) (a' := ?_) D26_90 rfl rfl (any_of HT_.out (by kernel_rfl)) (fun _ _ _ h => h) (Or.inr ⟨by rfl, rfl⟩) ?_ ?_
       rotate_left
       ·simp only [Act.put, sS_, sZ_, sC_, i64_w, i32_w]
        rfl
       refine pure_ (i := 17) (N := some 29) (v := undef) (a' := ?_) D27_90 rfl rfl (any_of HT_.out (by kernel_rfl)) (fun _ _ _ h => h) (Or.inr ⟨by rfl, rfl⟩) ?_ ?_
       rotate_left
       ·simp only [Act.put, sS_, sZ_, sC_, i64_w, i32_w]
        rfl
       refine pure_ (i := 18) (N := some 30) (v := undef) (a' := ?_) D19_90 rfl rfl (any_of HT_.out (by kernel_rfl)) (fun _ _ _ h => h) (Or.inr ⟨by rfl, rfl⟩) ?_ ?_
       rotate_left
       ·simp only [Act.put, sS_, sZ_, sC_, i64_w, i32_w]
        rfl
       refine pure_ (i := 19) (N := some 31) (v := undef) (a' := ?_) D20_90 rfl rfl (any_of HT_.out (by kernel_rfl)) (fun _ _ _ h => h) (Or.inr ⟨by rfl, rfl⟩) ?_ ?_
       rotate_left
       ·simp only [Act.put, sS_, sZ_, sC_, i64_w, i32_w]
        rfl
       refine pure_ (i := 20) (N := some 32) (v := undef) (a' := ?_) D21_90 rfl rfl (any_of HT_.out (by kernel_rfl)) (fun _ _ _ h => h) (Or.inr ⟨by rfl, rfl⟩) ?_ ?_
       rotate_left
       ·simp only [Act.put, sS_, sZ_, sC_, i64_w, i32_w]
        rfl
       refine pure_ (i := 21) (N := some 33) (v := undef) (a' := ?_) D22_90 rfl rfl (any_of HT_.out (by kernel_rfl)) (fun _ _ _ h => h) (Or.inr ⟨by rfl, rfl⟩) ?_ ?_
       rotate_left
       ·simp only [Act.put, sS_, sZ_, sC_, i64_w, i32_w]
        rfl
       refine pure_ (i := 22) (N := some 34) (v := ?_) (a' := ?_) D23_90 rfl rfl (any_of HT_.out (by kernel_rfl)) (fun _ _ _ h => h) (Or.inl ⟨by rfl, ?_⟩) ?_ ?_
       rotate_left
       ·intro w'
        go_simp
        with_reducible rfl
       rotate_left
       ·simp only [Act.put, sS_, sZ_, sC_, i64_w, i32_w]
        rfl
       refine pure_ (i := 23) (N := some 35) (v := ?_) (a' := ?_) D24_90 rfl rfl (any_of HT_.out (by kernel_rfl)) (fun _ _ _ h => h) (Or.inl ⟨by rfl, ?_⟩) ?_ ?_
       rotate_left
       ·intro w'
        go_simp
        with_reducible rfl
       rotate_left
       ·simp only [Act.put, sS_, sZ_, sC_, i64_w, i32_w]
        rfl
       refine done_ (done_of HT_.out (by kernel_rfl)) ?_
       try go_wp2
       go_roundg k1
       case measure => have := HK1.out; omega
       case rel => exact ⟨(wrap64 (x5_1 + 1)), (by first | rfl | (simp; done) | (simp [*]; done)), H', ⟨by have := HK1.out; omega⟩, ⟨by (with_reducible repeat (first | refine blk_drewN ?_ _ | refine blk_drew ?_ | refine blk_alloc ?_ _)); exact BK782.out⟩, ⟨by repeat (first | (with_reducible first | exact HB.out | apply below_alloc | apply pw_below_drewN | apply below_drew1 | refine below_set ?_ GE782.out) | exact HB.out)⟩⟩
     ·replace c7 := Bool.eq_false_iff.mpr c7
      subst c7
      rw [if_neg (show ¬ (false = true) by decide)] at H
      obtain rfl := Option.some.inj H
      try go_wp2
      have n0_ := Aside0.mk (blk_drew BK782.out)
      have n1_ := Aside0.mk (below_drew1 HB.out)
      clear BK782
      clear HB
      have BK782 := n0_
      have HB := n1_
      clear n0_ n1_
      have p784 : 0 ≤ (x5_1 : Int) := of_decide_eq_true (by first | (with_reducible assumption) | assumption)
      have q784 : x5_1 < (l1.length : Int) := of_decide_eq_true (by first | (with_reducible assumption) | assumption)
      obtain ⟨ad784, e784, hx784_0, hx784_1, hx784_2, hx784_3⟩ := at_T35 HR1.out x5_1 p784 q784
      have hw784_3 := hx784_3
      have hw784_2 := hx784_2
      have hw784_1 := hx784_1
      have hw784_0 := hx784_0
      cases e784
      replace hx784_0 := (HB.out.cell (World.block_lt_of_cell? w _ hx784_0)).trans hx784_0
      replace hx784_1 := (HB.out.cell (World.block_lt_of_cell? w _ hx784_1)).trans hx784_1
      replace hx784_2 := (HB.out.cell (World.block_lt_of_cell? w _ hx784_2)).trans hx784_2
      replace hx784_3 := (HB.out.cell (World.block_lt_of_cell? w _ hx784_3)).trans hx784_3
      replace p784 := eq_true p784
      replace q784 := eq_true q784
      refine start_ (n := 24) (S := fun w' => w'.cell? ⟨gb782, 0, none⟩ = some (.int .i64 a0_0) ∧ w'.cell? ⟨gb782, 1, none⟩ = some (.int .i64 a0_1) ∧ w'.cell? ⟨gb782, 2, none⟩ = some (.slice A0_2 l0_2.length c0_2) ∧ w'.cell? (ad784.add ((x5_1).toNat * 4)) = some (.int .i64 ((rd_T35 l1 x5_1).f0)) ∧ w'.cell? ⟨(ad784.add ((x5_1).toNat * 4)).block, (ad784.add ((x5_1).toNat * 4)).off + 1, none⟩ = some (.int .i64 ((rd_T35 l1 x5_1).f1)) ∧ w'.cell? ⟨(ad784.add ((x5_1).toNat * 4)).block, (ad784.add ((x5_1).toNat * 4)).off + 2, none⟩ = some (.int .i64 ((rd_T35 l1 x5_1).f2)) ∧ w'.cell? ⟨(ad784.add ((x5_1).toNat * 4)).block, (ad784.add ((x5_1).toNat * 4)).off + 3, none⟩ = some (.int .i64 ((rd_T35 l1 x5_1).f3))) (ds := []) D0_90 (by kernel_rfl) rfl rfl ⟨(blk_cell BK782.out 0).trans rfl, (blk_cell BK782.out 1).trans rfl, (blk_cell BK782.out 2).trans rfl, ((HB.out.cell (World.block_lt_of_cell? w _ hw784_0)).trans hw784_0), ((HB.out.cell (World.block_lt_of_cell? w _ hw784_1)).trans hw784_1), ((HB.out.cell (World.block_lt_of_cell? w _ hw784_2)).trans hw784_2), ((HB.out.cell (World.block_lt_of_cell? w _ hw784_3)).trans hw784_3)⟩ (fun hHeld => ?_); refine with_tabW spec_l22Good.tab4 spec_l22Good.bits4 (fun HT_ HW_ => ?_)
      generalize wr.drew = w22 at BK782 HB hx784_0 hx784_1 hx784_2 hx784_3 hHeld ⊢
      refine pure_ (i := 1) (N := some 13) (v := ?_) (a' := ?_) D1_90 rfl rfl (any_of HT_.out (by kernel_rfl)) (fun _ _ _ h => h) (Or.inl ⟨by rfl, ?_⟩) ?_ ?_
      rotate_left
      ·intro w'
       go_simp
       with_reducible rfl
      rotate_left
      ·simp only [Act.put, sS_, sZ_, sC_, i64_w, i32_w]
       rfl
      refine pure_ (i := 2) (N := some 14) (v := ?_) (a' := ?_) D2_90 rfl rfl (any_of HT_.out (by kernel_rfl)) (fun _ _ _ h => h) (Or.inl ⟨by rfl, ?_⟩) ?_ ?_
      rotate_left
      ·intro w'
       go_simp
       with_reducible rfl
      rotate_left
      ·simp only [Act.put, sS_, sZ_, sC_, i64_w, i32_w]
       rfl
      refine pure_ (i := 3) (N := some 15) (v := ?_) (a' := ?_) D3_90 rfl rfl (any_of HT_.out (by kernel_rfl)) (fun _ _ _ h => h) (Or.inl ⟨by rfl, ?_⟩) ?_ ?_
      rotate_left
      ·intro w'
       go_simp
       with_reducible rfl
      rotate_left
      ·simp only [Act.put, sS_, sZ_, sC_, i64_w, i32_w]
       rfl
      refine take_ (i := 0) (N := some 12) (v := ?_) (a' := ?_) D4_90 rfl rfl (take_ofW HT_.out HW_.out (by kernel_rfl)) (fun _ _ _ h => h) (Or.inl ⟨by rfl, ?_⟩) hHeld ?_ ?_
      rotate_left
      ·rintro w' ⟨s0, s1, s2, s3, s4, s5, s6⟩
       go_simp
       with_reducible rfl
      rotate_left
      ·simp only [Act.put, sS_, sZ_, sC_, i64_w, i32_w]
       rfl
      refine take_ (i := 4) (N := some 16) (v := ?_) (a' := ?_) D5_90 rfl rfl (take_ofW HT_.out HW_.out (by kernel_rfl)) (fun _ _ _ h => h) (Or.inl ⟨by rfl, ?_⟩) hHeld ?_ ?_
      rotate_left
      ·rintro w' ⟨s0, s1, s2, s3, s4, s5, s6⟩
       go_simp
       with_reducible rfl
      rotate_left
      ·simp only [Act.put, sS_, sZ_, sC_, i64_w, i32_w]
       rfl
      refine one_ (i := 5) (N := some 17) D6_90 rfl rfl (one_of HT_.out (by kernel_rfl)) (by decide) (fun K hK => ?_)
      refine goes_ Try.func106 (by kernel_rfl) rfl #[.agg #[.int .i64 a0_0, .int .i64 a0_1, .slice A0_2 l0_2.length c0_2], .agg #[.int .i64 ((rd_T35 l1 x5_1).f0), .int .i64 ((rd_T35 l1 x5_1).f1), .int .i64 ((rd_T35 l1 x5_1).f2), .int .i64 ((rd_T35 l1 x5_1).f3)]] (by rfl) rfl rfl (by (try simp only [List.map_toArray, List.map_cons, List.map_nil]); first | done | rfl | (simp only [List.length_drop, List.length_take]; rfl)) ?_
      with_reducible refine (spec_l22One.calls k1 a0_0 a0_1 _ _ l0_2 ((rd_T35 l1 x5_1).f0) ((rd_T35 l1 x5_1).f1) ((rd_T35 l1 x5_1).f2) ((rd_T35 l1 x5_1).f3) false _ ?side1 ?side2 A6.out).mono ?_
      (case side1 => repeat (first | exact (Kd.C_below HR0_2.out HB.out) | (with_reducible refine Kd.C_alloc ?_ _) | (with_reducible refine Kd.C_drewN ?_ _) | (with_reducible refine Kd.C_drew ?_)))
      (case side2 => exact HC0_2.out)
      rintro e w23 ⟨rfl, hb⟩
      refine ⟨_, rfl, ?_⟩
      have n0_ := Aside0.mk (blk_below (g := gb782) (o := .cells #[.int .i64 a0_0, .int .i64 a0_1, .slice A0_2 l0_2.length c0_2] 26 (0, 0)) (by (with_reducible repeat (first | refine blk_drewN ?_ _ | refine blk_drew ?_ | refine blk_alloc ?_ _)); exact BK782.out) hb)
      have n1_ := Aside0.mk (below_step (by repeat (first | (with_reducible first | exact HB.out | apply below_alloc | apply pw_below_drewN | apply below_drew1 | refine below_set ?_ GE782.out) | exact HB.out)) hb)
      clear BK782
      clear HB
      have BK782 := n0_
      have HB := n1_
      clear n0_ n1_
      (try clear hb)
      (try clear hb2)
      (try clear hk)
      (try clear hi)
      refine hK.out _ _ ⟨(blk_cell BK782.out 0).trans rfl, (blk_cell BK782.out 1).trans rfl, (blk_cell BK782.out 2).trans rfl, ((HB.out.cell (World.block_lt_of_cell? w _ hw784_0)).trans hw784_0), ((HB.out.cell (World.block_lt_of_cell? w _ hw784_1)).trans hw784_1), ((HB.out.cell (World.block_lt_of_cell? w _ hw784_2)).trans hw784_2), ((HB.out.cell (World.block_lt_of_cell? w _ hw784_3)).trans hw784_3)⟩ (fun hHeld => ?_)
      clear hK K
      refine norm_ (a' := ?_) ?_ ?_
      rotate_left
      ·show Act.put _ (some 17) _ = _
       simp only [Act.put, sS_, sZ_, sC_, i64_w, i32_w]
       rfl
      refine pure_ (i := 6) (N := some 18) (v := ?_) (a' := ?_) D7_90 rfl rfl (any_of HT_.out (by kernel_rfl)) (fun _ _ _ h => h) (Or.inl ⟨by rfl, ?_⟩) ?_ ?_
      rotate_left
      ·intro w'
       go_simp
       with_reducible rfl
      rotate_left
      ·simp only [Act.put, sS_, sZ_, sC_, i64_w, i32_w]
       rfl
      refine pure_ (i := 7) (N := some 19) (v := ?_) (a' := ?_) D8_90 rfl rfl (any_of HT_.out (by kernel_rfl)) (fun _ _ _ h => h) (Or.inl ⟨by rfl, ?_⟩) ?_ ?_
      rotate_left
      ·intro w'
       go_simp
       with_reducible rfl
      rotate_left
      ·simp only [Act.put, sS_, sZ_, sC_, i64_w, i32_w]
       rfl
      refine pure_ (i := 8) (N := some 20) (v := undef) (a' := ?_) D9_90 rfl rfl (any_of HT_.out (by kernel_rfl)) (fun _ _ _ h => h) (Or.inr ⟨by rfl, rfl⟩) ?_ ?_
      rotate_left
      ·simp only [Act.put, sS_, sZ_, sC_, i64_w, i32_w]
       rfl
      refine pure_ (i := 9) (N := some 21) (v := undef) (a' := ?_) D10_90 rfl rfl (any_of HT_.out (by kernel_rfl)) (fun _ _ _ h => h) (Or.inr ⟨by rfl, rfl⟩) ?_ ?_
      rotate_left
      ·simp only [Act.put, sS_, sZ_, sC_, i64_w, i32_w]
       rfl
      refine pure_ (i := 10) (N := some 22) (v := undef) (a' := ?_) D11_90 rfl rfl (any_of HT_.out (by kernel_rfl)) (fun _ _ _ h => h) (Or.inr ⟨by rfl, rfl⟩) ?_ ?_
      rotate_left
      ·simp only [Act.put, sS_, sZ_, sC_, i64_w, i32_w]
       rfl
      refine pure_ (i := 11) (N := some 23) (v := undef) (a' := ?_) D12_90 rfl rfl (any_of HT_.out (by kernel_rfl)) (fun _ _ _ h => h) (Or.inr ⟨by rfl, rfl⟩) ?_ ?_
      rotate_left
      ·simp only [Act.put, sS_, sZ_, sC_, i64_w, i32_w]
       rfl
      refine pure_ (i := 12) (N := some 24) (v := undef) (a' := ?_) D13_90 rfl rfl (any_of HT_.out (by kernel_rfl)) (fun _ _ _ h => h) (Or.inr ⟨by rfl, rfl⟩) ?_ ?_
      rotate_left
      ·simp only [Act.put, sS_, sZ_, sC_, i64_w, i32_w]
       rfl
      refine pure_ (i := 13) (N := some 25) (v := undef) (a' := ?_) D14_90 rfl rfl (any_of HT_.out (by kernel_rfl)) (fun _ _ _ h => h) (Or.inr ⟨by rfl, rfl⟩) ?_ ?_
      rotate_left
      ·simp only [Act.put, sS_, sZ_, sC_, i64_w, i32_w]
       rfl
      refine pure_ (i := 14) (N := some 26) (v := undef) (a' := ?_) D15_90 rfl rfl (any_of HT_.out (by kernel_rfl)) (fun _ _ _ h => h) (Or.inr ⟨by rfl, rfl⟩) ?_ ?_
      rotate_left
      ·simp only [Act.put, sS_, sZ_, sC_, i64_w, i32_w]
       rfl
      refine pure_ (i := 15) (N := some 27) (v := undef) (a' := ?_) D25_90 rfl rfl (any_of HT_.out (by kernel_rfl)) (fun _ _ _ h => h) (Or.inr ⟨by rfl, rfl⟩) ?_ ?_
      rotate_left
      ·simp only [Act.put, sS_, sZ_, sC_, i64_w, i32_w]
       rfl
      refine pure_ (i := 16) (N := some 28) (v := undef) (a' := ?_) D26_90 rfl rfl (any_of HT_.out (by kernel_rfl)) (fun _ _ _ h => h) (Or.inr ⟨by rfl, rfl⟩) ?_ ?_
      rotate_left
      ·simp only [Act.put, sS_, sZ_, sC_, i64_w, i32_w]
       rfl
      refine pure_ (i := 17) (N := some 29) (v := undef) (a' := ?_) D27_90 rfl rfl (any_of HT_.out (by kernel_rfl)) (fun _ _ _ h => h) (Or.inr ⟨by rfl, rfl⟩) ?_ ?_
      rotate_left
      ·simp only [Act.put, sS_, sZ_, sC_, i64_w, i32_w]
       rfl
      refine pure_ (i := 18) (N := some 30) (v := undef) (a' := ?_) D19_90 rfl rfl (any_of HT_.out (by kernel_rfl)) (fun _ _ _ h => h) (Or.inr ⟨by rfl, rfl⟩) ?_ ?_
      rotate_left
      ·simp only [Act.put, sS_, sZ_, sC_, i64_w, i32_w]
       rfl
      refine pure_ (i := 19) (N := some 31) (v := undef) (a' := ?_) D20_90 rfl rfl (any_of HT_.out (by kernel_rfl)) (fun _ _ _ h => h) (Or.inr ⟨by rfl, rfl⟩) ?_ ?_
      rotate_left
      ·simp only [Act.put, sS_, sZ_, sC_, i64_w, i32_w]
       rfl
      refine pure_ (i := 20) (N := some 32) (v := undef) (a' := ?_) D21_90 rfl rfl (any_of HT_.out (by kernel_rfl)) (fun _ _ _ h => h) (Or.inr ⟨by rfl, rfl⟩) ?_ ?_
      rotate_left
      ·simp only [Act.put, sS_, sZ_, sC_, i64_w, i32_w]
       rfl
      refine pure_ (i := 21) (N := some 33) (v := undef) (a' := ?_) D22_90 rfl rfl (any_of HT_.out (by kernel_rfl)) (fun _ _ _ h => h) (Or.inr ⟨by rfl, rfl⟩) ?_ ?_
      rotate_left
      ·simp only [Act.put, sS_, sZ_, sC_, i64_w, i32_w]
       rfl
      refine pure_ (i := 22) (N := some 34) (v := undef) (a' := ?_) D23_90 rfl rfl (any_of HT_.out (by kernel_rfl)) (fun _ _ _ h => h) (Or.inr ⟨by rfl, rfl⟩) ?_ ?_
      rotate_left
      ·simp only [Act.put, sS_, sZ_, sC_, i64_w, i32_w]
       rfl
      refine pure_ (i := 23) (N := some 35) (v := ?_) (a' := ?_) D24_90 rfl rfl (any_of HT_.out (by kernel_rfl)) (fun _ _ _ h => h) (Or.inl ⟨by rfl, ?_⟩) ?_ ?_
      rotate_left
      ·intro w'
       go_simp
       with_reducible rfl
      rotate_left
      ·simp only [Act.put, sS_, sZ_, sC_, i64_w, i32_w]
       rfl
      refine done_ (done_of HT_.out (by kernel_rfl)) ?_
      try go_wp2
      go_ret
      exact ⟨by first | rfl | (simp [errW_none, errW_some] <;> rfl) | (simp [*, errW_none, errW_some] <;> rfl) | (simp [wrap64]; done), by repeat (first | (with_reducible first | exact HB.out | apply below_alloc | apply pw_below_drewN | apply below_drew1 | refine below_set ?_ GE782.out) | exact HB.out)⟩
    ·rw [if_neg c5] at H
     exact absurd H (by simp)
   ·rw [if_neg c4] at H
    have c4b0 : decide (x5_1 < (l1.length : Int)) = false := decide_eq_false c4
    clear c4
    replace H := Option.bind_eq_some_iff.mp H
    obtain ⟨t783, A240, H⟩ := H
    have A24 := Aside0.mk A240
    clear A240
    by_cases c25 : t783 = true
    ·subst c25
     rw [if_pos rfl] at H
     obtain rfl := Option.some.inj H
     have hcz26_0 : wr.cell? ⟨gb782, 0, none⟩ = some (.int .i64 a0_0) := (blk_cell BK782.out 0).trans rfl
     have hcz26_1 : wr.cell? ⟨gb782, 1, none⟩ = some (.int .i64 a0_1) := (blk_cell BK782.out 1).trans rfl
     have hcz26_2 : wr.cell? ⟨gb782, 2, none⟩ = some (.slice A0_2 l0_2.length c0_2) := (blk_cell BK782.out 2).trans rfl
     have hfz26_0 := blk_frozen BK782.out 0
     have hfz26_1 := blk_frozen BK782.out 1
     have hfz26_2 := blk_frozen BK782.out 2
     go_wp2_with (first | ((with_reducible refine gate_callee (f := 144) rfl ?_); refine goesL_ (some 37) rfl rfl Try.func144 (by kernel_rfl) rfl #[.agg #[.int .i64 a0_0, .int .i64 a0_1, .slice A0_2 l0_2.length c0_2]] rfl (by (try simp only [List.map_toArray, List.map_cons, List.map_nil]); first | done | rfl | (simp only [List.length_drop, List.length_take]; rfl)) ?_; (with_reducible refine (spec_l2Good.calls k1 a0_0 a0_1 _ _ l0_2 true _ ?side1 ?side2 A24.out).mono ?_); (case side1 => repeat (first | exact (Kd.C_below HR0_2.out HB.out) | (with_reducible refine Kd.C_alloc ?_ _) | (with_reducible refine Kd.C_drewN ?_ _) | (with_reducible refine Kd.C_drew ?_))); (case side2 => exact HC0_2.out); rintro e w27 ⟨rfl, hb⟩; refine ⟨_, rfl, ?_⟩; have n0_ := Aside0.mk (blk_below (g := gb782) (o := .cells #[.int .i64 a0_0, .int .i64 a0_1, .slice A0_2 l0_2.length c0_2] 26 (0, 0)) (by (with_reducible repeat (first | refine blk_drewN ?_ _ | refine blk_drew ?_ | refine blk_alloc ?_ _)); exact BK782.out) hb); have n1_ := Aside0.mk (below_step (by repeat (first | (with_reducible first | exact HB.out | apply below_alloc | apply pw_below_drewN | apply below_drew1 | refine below_set ?_ GE782.out) | exact HB.out)) hb); clear BK782; clear HB; have BK782 := n0_; have HB := n1_; clear n0_ n1_; (try clear hb); (try clear hb2); (try clear hk); (try clear hi)))
     go_ret
     exact ⟨by first | rfl | (simp [errW_none, errW_some] <;> rfl) | (simp [*, errW_none, errW_some] <;> rfl) | (simp [wrap64]; done), by repeat (first | (with_reducible first | exact HB.out | apply below_alloc | apply pw_below_drewN | apply below_drew1 | refine below_set ?_ GE782.out) | exact HB.out)⟩
    ·replace c25 := Bool.eq_false_iff.mpr c25
     subst c25
     rw [if_neg (show ¬ (false = true) by decide)] at H
     obtain rfl := Option.some.inj H
     have hcz28_0 : wr.cell? ⟨gb782, 0, none⟩ = some (.int .i64 a0_0) := (blk_cell BK782.out 0).trans rfl
     have hcz28_1 : wr.cell? ⟨gb782, 1, none⟩ = some (.int .i64 a0_1) := (blk_cell BK782.out 1).trans rfl
     have hcz28_2 : wr.cell? ⟨gb782, 2, none⟩ = some (.slice A0_2 l0_2.length c0_2) := (blk_cell BK782.out 2).trans rfl
     have hfz28_0 := blk_frozen BK782.out 0
     have hfz28_1 := blk_frozen BK782.out 1
     have hfz28_2 := blk_frozen BK782.out 2
     go_wp2_with (first | ((with_reducible refine gate_callee (f := 144) rfl ?_); refine goesL_ (some 37) rfl rfl Try.func144 (by kernel_rfl) rfl #[.agg #[.int .i64 a0_0, .int .i64 a0_1, .slice A0_2 l0_2.length c0_2]] rfl (by (try simp only [List.map_toArray, List.map_cons, List.map_nil]); first | done | rfl | (simp only [List.length_drop, List.length_take]; rfl)) ?_; (with_reducible refine (spec_l2Good.calls k1 a0_0 a0_1 _ _ l0_2 false _ ?side1 ?side2 A24.out).mono ?_); (case side1 => repeat (first | exact (Kd.C_below HR0_2.out HB.out) | (with_reducible refine Kd.C_alloc ?_ _) | (with_reducible refine Kd.C_drewN ?_ _) | (with_reducible refine Kd.C_drew ?_))); (case side2 => exact HC0_2.out); rintro e w29 ⟨rfl, hb⟩; refine ⟨_, rfl, ?_⟩; have n0_ := Aside0.mk (blk_below (g := gb782) (o := .cells #[.int .i64 a0_0, .int .i64 a0_1, .slice A0_2 l0_2.length c0_2] 26 (0, 0)) (by (with_reducible repeat (first | refine blk_drewN ?_ _ | refine blk_drew ?_ | refine blk_alloc ?_ _)); exact BK782.out) hb); have n1_ := Aside0.mk (below_step (by repeat (first | (with_reducible first | exact HB.out | apply below_alloc | apply pw_below_drewN | apply below_drew1 | refine below_set ?_ GE782.out) | exact HB.out)) hb); clear BK782; clear HB; have BK782 := n0_; have HB := n1_; clear n0_ n1_; (try clear hb); (try clear hb2); (try clear hk); (try clear hi)))
     go_ret
     exact ⟨by first | rfl | (simp [errW_none, errW_some] <;> rfl) | (simp [*, errW_none, errW_some] <;> rfl) | (simp [wrap64]; done), by repeat (first | (with_reducible first | exact HB.out | apply below_alloc | apply pw_below_drewN | apply below_drew1 | refine below_set ?_ GE782.out) | exact HB.out)⟩

end Go.Proofs.Ytkglpfdoefdhdaa.Q

namespace Go.Proofs.Ytkglpfdoefdhdaa.M
open Go.RowKit Go.Proofs.Ytkglpfdoefdhdaa.Q Go.Proofs.YtkglpfdoefdhdaaW.PrintWords Go.Proofs.YtkglpfdoefdhdaaW.PrintLast Go.Proofs.YtkglpfdoefdhdaaW.Pl Classical
set_option linter.unusedSimpArgs false
set_option linter.unusedVariables false
theorem rd35 (l : List S35) (i : Nat) : rd_T35 l (i : Int) = nth l i z35 := by unfold rd_T35 nth; simp
theorem rd48 (l : List S48) (i : Nat) : rd_T48 l (i : Int) = nth l i z48 := by unfold rd_T48 nth; simp
def cvFlaw (x : S48) : S35 := ⟨x.f0, x.f1, x.f2, x.f3⟩
theorem toFlaws (l : List S48) (hm : l.length ≤ 1048576) : Ev (fun k => laws_toFlawS.f k l) (l.map cvFlaw) := by
  refine ⟨l.length + 1, fun k hk => ?_⟩
  show laws_toFlawS.f k l = _
  unfold laws_toFlawS.f
  rw [if_pos (by omega), if_pos (by omega)]
  have h := fill_gen l cvFlaw (fun k acc i => laws_toFlawS.l0 k l acc i) ?hstep ?hend k hk (List.replicate l.length z35) (by simp)
  case hstep =>
    intro k acc i hi ha
    simp only [laws_toFlawS.l0]
    rw [if_pos (by omega), if_pos (by omega), rd48, nth_get hi]
    simp only [laws_toFlaw.f, Option.bind_some]
    rw [if_pos (by omega), w64 (x := (i : Int) + 1) (by omega)]
    rfl
  case hend =>
    intro k acc
    simp [laws_toFlawS.l0]
  simpa using h
theorem eqFlaws (l : List S35) (hm : l.length ≤ 1048576) : Ev (fun k => laws_eqFlawS.f k l l) true := by
  unfold laws_eqFlawS.f
  simp only [if_true]
  have h := scanE l.length (fun _ => true) true false (fun k i => laws_eqFlawS.l0 k l l i) ?hs ?hb ?he
  case hs =>
    intro i r hi _ hr
    refine Ev.succ ?_
    simp only [laws_eqFlawS.l0, laws_eqFlaw.f, if_pos (show (i : Int) < (l.length : Int) by omega), if_pos (show (0 : Int) ≤ (i : Int) by omega), if_true, Option.bind_some, w64 (x := (i : Int) + 1) (by omega)]
    exact hr
  case hb => intro i _ h; cases h
  case he =>
    refine Ev.succ ?_
    simp only [laws_eqFlawS.l0, if_neg (show ¬ ((l.length : Int) < (l.length : Int)) by omega)]
    exact Ev.now _
  simpa using h
theorem markStepFlaw (l : List S35) (m i : Int) (h0 : 0 ≤ i) (h1 : i < (l.length : Int)) : ∃ b : List S35, b.length = l.length ∧ ∀ k, laws_markFlawS.l0 (k + 1) l m i = laws_markFlawS.l0 k b (wrap64 ((wrap64 ((wrap64 ((wrap64 (m + 1)) + 1)) + 1)) + 1)) (wrap64 (i + 1)) := by
  simp only [laws_markFlawS.l0, if_pos h1, if_pos h0]
  generalize (i.toNat) = j
  refine bindLen _ _ (fun b k => laws_markFlawS.l0 k b _ _) (by rw [List.length_set]) (fun b1 hb1 => ?_)
  refine bindLen _ _ (fun b k => laws_markFlawS.l0 k b _ _) (by rw [List.length_set]; exact hb1) (fun b2 hb2 => ?_)
  refine bindLen _ _ (fun b k => laws_markFlawS.l0 k b _ _) (by rw [List.length_set]; exact hb2) (fun b3 hb3 => ?_)
  exact ⟨_, by rw [List.length_set]; exact hb3, fun _ => rfl⟩
/-- A list of them is marked: the marks stay positive. -/
theorem markFlaws (l : List S35) (hm : l.length ≤ 1048576) (m0 : Nat) (hm0 : m0 ≤ 1099511627776) : ∃ l', Ev (fun k => laws_markFlawS.f k l (m0 : Int)) (((4 * l.length + m0 : Nat) : Int), l') := by
  have main : ∀ d (i m : Nat) (a : List S35), m = 4 * i + m0 → a.length = l.length → l.length - i = d → i ≤ l.length → ∃ l', Ev (fun k => laws_markFlawS.l0 k a (m : Int) (i : Int)) (((4 * l.length + m0 : Nat) : Int), l') := by
    intro d
    induction d with
    | zero =>
      intro i m a hmi ha hd hi
      have hil : i = l.length := by omega
      refine ⟨a, Ev.succ ?_⟩
      simp only [laws_markFlawS.l0, if_neg (show ¬ ((i : Int) < (a.length : Int)) by omega)]
      rw [hmi, hil]
      exact Ev.now _
    | succ d ih =>
      intro i m a hmi ha hd hi
      have hb1 : m < 4611686018427380000 := by omega
      obtain ⟨b, hb, hs⟩ := markStepFlaw a (m : Int) (i : Int) (by omega) (by omega)
      rw [stepI (m) (by omega), stepI (m + 1) (by omega), stepI (m + 1 + 1) (by omega), stepI (m + 1 + 1 + 1) (by omega), stepI i (by omega)] at hs
      obtain ⟨l', h⟩ := ih (i + 1) (m + 1 + 1 + 1 + 1) b (by clear hs; omega) (by clear hs; omega) (by clear hs; omega) (by clear hs; omega)
      refine ⟨l', Ev.succ ?_⟩
      have : (fun k => laws_markFlawS.l0 (k + 1) a (m : Int) (i : Int)) = (fun k => laws_markFlawS.l0 k b ((m + 1 + 1 + 1 + 1 : Nat) : Int) ((i + 1 : Nat) : Int)) := funext hs
      rw [this]
      exact h
  exact main l.length 0 m0 l (by omega) rfl (by omega) (by omega)
theorem szFlaws (l : List S48) (a : Int) (hn : l.length ≤ maxLen) (ha : 0 ≤ a ∧ a ≤ 1048576) : ∃ r, laws_szFlawS.f l a = some r ∧ (r < 0 ∨ (0 ≤ r ∧ r ≤ 1048576 ∧ l.length ≤ 1048576)) := by
  unfold laws_szFlawS.f
  rw [szW a _ hn ha]
  by_cases h : a - (l.length : Int) < 0
  · exact ⟨-1, by rw [if_pos h], .inl (by omega)⟩
  · exact ⟨_, by rw [if_neg h], .inr (by omega)⟩
/-! Valid flaws. -/
def okF (w h : Int) (x : S35) : Bool := decide ((0 ≤ x.f0 ∧ x.f0 ≤ 4) ∧ (0 ≤ x.f1 ∧ x.f1 ≤ h - 1) ∧ (0 ≤ x.f2 ∧ x.f2 ≤ w - 1) ∧ (1 ≤ x.f3 ∧ x.f3 ≤ 9))
def befF (x y : S35) : Bool := decide (x.f1 < y.f1 ∨ x.f1 = y.f1 ∧ (x.f2 < y.f2 ∨ x.f2 = y.f2 ∧ x.f0 < y.f0))
def ascF (l : List S35) (i : Nat) : Bool := decide (i = 0) || befF (nth l (i - 1) z35) (nth l i z35)
def flawAt (w h : Int) (l : List S35) (i : Nat) : Bool := okF w h (nth l i z35) && ascF l i
def goodF (w h : Int) (c : List Int) (l : List S35) : Bool := (goodC w h c && decide (l.length ≤ 12)) && (List.range l.length).all fun i => flawAt w h l i
theorem goodF_at {w h : Int} {c : List Int} {l : List S35} (hg : goodF w h c l = true) : goodC w h c = true ∧ l.length ≤ 12 ∧ ∀ i, i < l.length → flawAt w h l i = true := by
  unfold goodF at hg
  rw [Bool.and_eq_true, Bool.and_eq_true, decide_eq_true_iff, range_all] at hg
  exact ⟨hg.1.1, hg.1.2, hg.2⟩
def orI3 (a b c : Int) : Int := if a ≠ 0 then a else if b ≠ 0 then b else c
theorem or_f3 (a b c : Int) : Ev (fun k => cmp_Or_int.f k [a, b, c]) (orI3 a b c) := by
  have h2 : wrap64 1 = 1 := by unfold wrap64; omega
  have h3 : wrap64 2 = 2 := by unfold wrap64; omega
  have h4 : wrap64 3 = 3 := by unfold wrap64; omega
  have h0 : cmp_Or_int.f 5 [a, b, c] = some (orI3 a b c) := by
    unfold cmp_Or_int.f orI3
    by_cases h : a = 0
    · by_cases h' : b = 0
      · by_cases h'' : c = 0
        · simp [cmp_Or_int.l0, rd, h2, h3, h4, h, h', h'']
        · simp [cmp_Or_int.l0, rd, h2, h3, h4, h, h', h'']
      · simp [cmp_Or_int.l0, rd, h2, h3, h4, h, h']
    · simp [cmp_Or_int.l0, rd, h2, h3, h4, h]
  exact ⟨5, fun k hk => at_rounds (cmp_Or_int.mono [a, b, c]) hk h0⟩
def cmpF (x y : S35) : Int := orI3 (cmpI x.f1 y.f1) (cmpI x.f2 y.f2) (cmpI x.f0 y.f0)
theorem iCompF (x y : S35) : Ev (fun k => impl_Flaw_compare.f k x.f0 x.f1 x.f2 x.f3 y.f0 y.f1 y.f2 y.f3) (cmpF x y) := by
  unfold impl_Flaw_compare.f
  simp only [cmp_f, Option.bind_some]
  exact Ev.bind (or_f3 _ _ _) (Ev.now _)
theorem cmpF_bef (x y : S35) : cmpF x y ≥ 0 ↔ befF x y = false := by
  unfold befF cmpF
  rw [decide_eq_false_iff_not]
  unfold orI3 cmpI
  repeat' split
  all_goals omega
theorem sBefF (x y : S35) : spec_l22Before.f x.f0 x.f1 x.f2 x.f3 y.f0 y.f1 y.f2 y.f3 = some (befF x y) := by
  unfold spec_l22Before.f befF
  by_cases h1 : x.f1 = y.f1
  · rw [if_pos h1]
    by_cases h2 : x.f2 = y.f2
    · rw [if_pos h2]
      congr 1
      rw [decide_eq_decide]
      omega
    · rw [if_neg h2]
      congr 1
      rw [decide_eq_decide]
      omega
  · rw [if_neg h1]
    congr 1
    rw [decide_eq_decide]
    omega
theorem sFlaw (x : S35) : spec_l22Flaw.f x.f0 x.f1 x.f2 x.f3 = some (decide ((0 ≤ x.f0 ∧ x.f0 ≤ 4) ∧ 1 ≤ x.f3 ∧ x.f3 ≤ 9)) := by
  unfold spec_l22Flaw.f
  simp only [l1In, Option.bind_some]
  by_cases h1 : 0 ≤ x.f0 ∧ x.f0 ≤ 4 <;> simp [h1]
theorem sOne (w h : Int) (c : List Int) (hc : c.length ≤ 1048576) (x : S35) : Ev (fun k => spec_l22One.f k w h c x.f0 x.f1 x.f2 x.f3) (goodC w h c && okF w h x) := by
  unfold spec_l22One.f
  refine Ev.bind (sGood w h c hc) ?_
  cases hg : goodC w h c with
  | false =>
    simp only [Bool.false_eq_true, if_false, Bool.false_and]
    exact Ev.now _
  | true =>
    obtain ⟨h1, h2, _⟩ := goodC_at hg
    simp only [if_true, Bool.true_and, sFlaw, l1In, Option.bind_some]
    rw [w64 (x := h - 1) (by omega), w64 (x := w - 1) (by omega)]
    refine Ev.c ?_
    unfold okF
    by_cases g1 : (0 ≤ x.f0 ∧ x.f0 ≤ 4) ∧ 1 ≤ x.f3 ∧ x.f3 ≤ 9
    · rw [if_pos (decide_eq_true g1)]
      by_cases g2 : 0 ≤ x.f1 ∧ x.f1 ≤ h - 1
      · rw [if_pos (decide_eq_true g2)]
        congr 1
        rw [decide_eq_decide]
        omega
      · rw [if_neg (by rw [decide_eq_false g2]; decide), decide_eq_false (by omega)]
    · rw [if_neg (by rw [decide_eq_false g1]; decide), decide_eq_false (by omega)]
theorem iIsFlaw {w h : Int} {c : List Int} (hg : goodC w h c = true) (x : S35) : impl_Chart_isFlaw.f w h c x.f0 x.f1 x.f2 x.f3 = some (okF w h x) := by
  obtain ⟨h1, h2, _⟩ := goodC_at hg
  unfold impl_Chart_isFlaw.f impl_isFlawKind.f okF
  simp only [iPlace, iIn, Option.bind_some]
  rw [w64 (x := h - 1) (by omega), w64 (x := w - 1) (by omega)]
  by_cases g1 : 0 ≤ x.f0 ∧ x.f0 ≤ 4
  · rw [if_pos (decide_eq_true g1)]
    by_cases g2 : (0 ≤ x.f1 ∧ x.f1 ≤ h - 1) ∧ 0 ≤ x.f2 ∧ x.f2 ≤ w - 1
    · rw [if_pos (decide_eq_true g2)]
      congr 1
      rw [decide_eq_decide]
      omega
    · rw [if_neg (by rw [decide_eq_false g2]; decide), decide_eq_false (by omega)]
  · rw [if_neg (by rw [decide_eq_false g1]; decide), decide_eq_false (by omega)]
theorem sFlaws (w h : Int) (c : List Int) (l : List S35) (hc : c.length ≤ 1048576) (hl : l.length ≤ 1048576) : Ev (fun k => spec_l22Good.f k w h c l) (goodF w h c l) := by
  unfold spec_l22Good.f
  have hs := scanE l.length (fun i => (goodC w h c && okF w h (nth l i z35)) && ascF l i) (goodC w h c && decide (l.length ≤ 12)) false (fun k i => spec_l22Good.l0 k l i w h c) ?hs ?hb ?he
  case hs =>
    intro i r hi ho hr
    rw [Bool.and_eq_true] at ho
    refine Ev.succ ?_
    simp only [spec_l22Good.l0, rd35, if_pos (show (i : Int) < (l.length : Int) by omega), if_pos (show (0 : Int) ≤ (i : Int) by omega)]
    refine Ev.bind (sOne w h c hc _) ?_
    simp only [ho.1, if_true]
    by_cases h0 : i = 0
    · simp only [if_neg (show ¬ (i : Int) > 0 by omega), stepI i (by omega)]
      exact hr
    · have hb : befF (nth l (i - 1) z35) (nth l i z35) = true := by
        have := ho.2
        unfold ascF at this
        rw [Bool.or_eq_true, decide_eq_true_iff] at this
        exact this.resolve_left h0
      simp only [if_pos (show (i : Int) > 0 by omega), predI i (by omega), rd35, if_pos (show (0 : Int) ≤ ((i - 1 : Nat) : Int) by omega), if_pos (show ((i - 1 : Nat) : Int) < (l.length : Int) by omega), sBefF, hb, Option.bind_some, if_true, stepI i (by omega)]
      exact hr
  case hb =>
    intro i hi ho
    refine Ev.succ ?_
    simp only [spec_l22Good.l0, rd35, if_pos (show (i : Int) < (l.length : Int) by omega), if_pos (show (0 : Int) ≤ (i : Int) by omega)]
    refine Ev.bind (sOne w h c hc _) ?_
    by_cases h1 : (goodC w h c && okF w h (nth l i z35)) = true
    · rw [h1, Bool.true_and] at ho
      simp only [h1, if_true]
      have h0 : i ≠ 0 := fun h0 => by unfold ascF at ho; simp [h0] at ho
      have hb : befF (nth l (i - 1) z35) (nth l i z35) = false := by
        unfold ascF at ho
        rw [decide_eq_false h0, Bool.false_or] at ho
        exact ho
      simp only [if_pos (show (i : Int) > 0 by omega), predI i (by omega), rd35, if_pos (show (0 : Int) ≤ ((i - 1 : Nat) : Int) by omega), if_pos (show ((i - 1 : Nat) : Int) < (l.length : Int) by omega), sBefF, hb, Option.bind_some, Bool.false_eq_true, if_false]
      exact Ev.now _
    · simp only [if_neg h1]
      exact Ev.now _
  case he =>
    refine Ev.succ ?_
    simp only [spec_l22Good.l0, if_neg (show ¬ ((l.length : Int) < (l.length : Int)) by omega)]
    refine Ev.bind (sGood w h c hc) ?_
    cases hg : goodC w h c with
    | true =>
      simp only [if_true, Bool.true_and]
      refine Ev.c ?_
      congr 1
      rw [decide_eq_decide]
      omega
    | false =>
      simp only [Bool.false_eq_true, if_false, Bool.false_and]
      exact Ev.now _
  have e : (if ((List.range l.length).all fun i => (goodC w h c && okF w h (nth l i z35)) && ascF l i) = true then (goodC w h c && decide (l.length ≤ 12)) else false) = goodF w h c l := by
    unfold goodF flawAt
    cases hg : goodC w h c with
    | false => simp
    | true =>
      simp only [Bool.true_and]
      generalize (List.range l.length).all _ = b
      cases b <;> simp
  rw [e] at hs
  exact hs
theorem iFlaws (w h : Int) (c : List Int) (l : List S35) (hl : l.length ≤ 1048576) : Ev (fun k => impl_AreFlaws.f k w h c l) (goodF w h c l) := by
  unfold impl_AreFlaws.f
  rw [iChart]
  have j0t : Ev (fun k => impl_AreFlaws.j0 k l true) false := by
    refine Ev.succ ?_
    simp only [impl_AreFlaws.j0, if_true]
    exact Ev.now _
  simp only [Option.bind_some]
  cases hg : goodC w h c with
  | false =>
    simp only [Bool.false_eq_true, if_false]
    have : goodF w h c l = false := by unfold goodF; rw [hg]; simp
    rw [this]
    exact j0t
  | true =>
    simp only [if_true]
    by_cases h8 : l.length ≤ 12
    · simp only [if_neg (show ¬ (l.length : Int) > 12 by omega)]
      unfold impl_Flaw_138__impl_Chart_isFlaw.f
      rw [all_total (p := okF w h) (fun x _ => iIsFlaw hg x), all_nth (p := okF w h) z35]
      simp only [Option.bind_some]
      by_cases ha : ((List.range l.length).all fun i => okF w h (nth l i z35)) = true
      · simp only [ha, Bool.not_true]
        refine Ev.succ ?_
        simp only [impl_AreFlaws.j0, Bool.false_eq_true, if_false]
        have main : ∀ d i, l.length - i = d → 1 ≤ i → Ev (fun k => impl_AreFlaws.l0 k l (i : Int)) ((List.range l.length).all fun j => decide (j < i) || ascF l j) := by
          intro d
          induction d with
          | zero =>
            intro i hd hi
            refine Ev.succ ?_
            simp only [impl_AreFlaws.l0, if_neg (show ¬ ((i : Int) < (l.length : Int)) by omega)]
            rw [show ((List.range l.length).all fun j => decide (j < i) || ascF l j) = true from range_all.2 (fun j hj => by rw [decide_eq_true (by omega)]; rfl)]
            exact Ev.now _
          | succ d ih =>
            intro i hd hi
            refine Ev.succ ?_
            simp only [impl_AreFlaws.l0, rd35, if_pos (show (i : Int) < (l.length : Int) by omega), predI i (by omega), if_pos (show (0 : Int) ≤ ((i - 1 : Nat) : Int) by omega), if_pos (show ((i - 1 : Nat) : Int) < (l.length : Int) by omega), if_pos (show (0 : Int) ≤ (i : Int) by omega)]
            refine Ev.bind (iCompF _ _) ?_
            by_cases hb : befF (nth l (i - 1) z35) (nth l i z35) = true
            · have hn : ¬ cmpF (nth l (i - 1) z35) (nth l i z35) ≥ 0 := fun hh => by rw [(cmpF_bef _ _).1 hh] at hb; cases hb
              simp only [if_neg hn, stepI i (by omega)]
              have e : ((List.range l.length).all fun j => decide (j < i) || ascF l j) = ((List.range l.length).all fun j => decide (j < i + 1) || ascF l j) := by
                rw [Bool.eq_iff_iff, range_all, range_all]
                refine ⟨fun hh j hj => ?_, fun hh j hj => ?_⟩
                · by_cases h1 : j < i + 1
                  · rw [decide_eq_true h1]; rfl
                  · have := hh j hj
                    rw [decide_eq_false (by omega), Bool.false_or] at this
                    rw [this, Bool.or_true]
                · by_cases h1 : j < i
                  · rw [decide_eq_true h1]; rfl
                  · by_cases h2 : j = i
                    · subst h2
                      unfold ascF
                      rw [hb]
                      simp
                    · have := hh j hj
                      rw [decide_eq_false (by omega), Bool.false_or] at this
                      rw [this, Bool.or_true]
              rw [e]
              exact ih (i + 1) (by omega) (by omega)
            · have hb' : befF (nth l (i - 1) z35) (nth l i z35) = false := by simpa using hb
              simp only [if_pos ((cmpF_bef _ _).2 hb')]
              have e : ((List.range l.length).all fun j => decide (j < i) || ascF l j) = false := by
                rw [Bool.eq_false_iff]
                intro hh
                rw [range_all] at hh
                have := hh i (by omega)
                unfold ascF at this
                rw [hb', decide_eq_false (by omega), decide_eq_false (by omega)] at this
                cases this
              rw [e]
              exact Ev.now _
        have hm := main (l.length - 1) 1 rfl (by omega)
        have e : ((List.range l.length).all fun j => decide (j < 1) || ascF l j) = goodF w h c l := by
          unfold goodF
          rw [hg, decide_eq_true h8]
          simp only [Bool.true_and]
          rw [Bool.eq_iff_iff, range_all, range_all]
          rw [range_all] at ha
          refine ⟨fun hh i hi => ?_, fun hh i hi => ?_⟩
          · unfold flawAt
            rw [ha i hi, Bool.true_and]
            by_cases h1 : i < 1
            · unfold ascF; rw [decide_eq_true (show i = 0 by omega)]; rfl
            · have := hh i hi
              rw [decide_eq_false h1, Bool.false_or] at this
              exact this
          · have := hh i hi
            unfold flawAt at this
            rw [Bool.and_eq_true] at this
            rw [this.2, Bool.or_true]
        rw [e] at hm
        exact hm
      · have hf : ((List.range l.length).all fun i => okF w h (nth l i z35)) = false := by simpa using ha
        simp only [hf, Bool.not_false]
        have : goodF w h c l = false := by
          cases hh : goodF w h c l with
          | false => rfl
          | true =>
            refine absurd ?_ ha
            rw [range_all]
            intro i hi
            have := (goodF_at hh).2.2 i hi
            unfold flawAt at this
            rw [Bool.and_eq_true] at this
            exact this.1
        rw [this]
        exact j0t
    · simp only [if_pos (show (l.length : Int) > 12 by omega)]
      have : goodF w h c l = false := by unfold goodF; rw [decide_eq_false h8]; simp
      rw [this]
      exact j0t
end Go.Proofs.Ytkglpfdoefdhdaa.M

namespace Go.Proofs.Ytkglpfdoefdhdaa.WK
open Go Go.RowKit Go.Proofs.Ytkglpfdoefdhdaa.Q Go.Proofs.Ytkglpfdoefdhdaa.M Go.Proofs.YtkglpfdoefdhdaaW.PrintWords Go.Proofs.YtkglpfdoefdhdaaW.SL
open Go.Proofs.YtkglpfdoefdhdaaW.Pl (nth nth_get nth_mem)
set_option linter.unusedSimpArgs false
set_option linter.unusedVariables false
set_option maxRecDepth 100000
namespace NF
open MO (mixed agg26 sc3)
open FM (fill4)
open IF (enc flat35 ap27 agg35 el27)
theorem sz35 : SzT Try.prog 35 4 := ⟨by kernel_rfl⟩
theorem zero35 : ZeroT Try.prog 35 [.int .i64 0, .int .i64 0, .int .i64 0, .int .i64 0] := ⟨by kernel_rfl⟩
theorem en81 : Ent Try.prog 81 := ⟨enters_of Try.func81 (by kernel_rfl) rfl⟩
end NF
end Go.Proofs.Ytkglpfdoefdhdaa.WK

namespace Go.Proofs.Ytkglpfdoefdhdaa.Q
open Go.RowKit Go.Proofs.YtkglpfdoefdhdaaW.PrintWords Go.Proofs.YtkglpfdoefdhdaaW.PrintLast Go.Proofs.YtkglpfdoefdhdaaW.PrintMore
attribute [local go_sem] max2_int min2_int max_two min_two max_three min_three max_four min_four
set_option linter.unusedVariables false
set_option linter.unusedSimpArgs false

/-! ### spec_l22Weight: function 94 -/
def spec_l22Weight.f (a0_0 : Int) (a0_1 : Int) (l0_2 : List Int) (a1_0 : Int) (a1_1 : Int) (a1_2 : Int) (a1_3 : Int) : Option (Int) := (some (([1, 2, 3, 5, 2] : List Int) : List Int)).bind fun y931 => (if 0 ≤ a1_0 then (if a1_0 < (y931.length : Int) then ((spec_l22Middle.f a1_1 a0_1).bind fun t935 => (if t935 = true then ((spec_l22Middle.f a1_2 a0_0).bind fun t936 => (if t936 = true then (some (wrap64 (2 * (wrap64 (a1_3 * (rd y931 a1_0)))))) else (some (wrap64 (a1_3 * (rd y931 a1_0)))))) else (some (wrap64 (a1_3 * (rd y931 a1_0)))))) else (none)) else (none))
def spec_l22Weight.T1 : Bool × List (List Nat × List Nat) := (true, [([], []), ([0], [0]), ([], []), ([], []), ([3], [3]), ([2, 4], [2, 4]), ([5], [5]), ([1, 6], [1, 6]), ([7, 0, 1, 2, 3, 4, 5, 6, 7], [7])])
def spec_l22Weight.B1 : List Nat := [0, 1, 0, 0, 8, 28, 60, 127, 255]
theorem spec_l22Weight.tab1 : rtab .any (opsOf Try.f94 1) = spec_l22Weight.T1 := by kernel_rfl
theorem spec_l22Weight.bits1 : waitsOk spec_l22Weight.T1.2 spec_l22Weight.B1 = true := by kernel_rfl
set_option maxHeartbeats 8000000 in
set_option maxRecDepth 100000 in
theorem spec_l22Weight.calls (a0_0 : Int) (a0_1 : Int) (A0_2 : Option Addr) (c0_2 : Nat) (l0_2 : List Int) (a1_0 : Int) (a1_1 : Int) (a1_2 : Int) (a1_3 : Int) (r : Int) (w : World) (hr0_2 : Kd.C (Kd.int .i64) w A0_2 l0_2.length l0_2) (hc0_2 : l0_2.length ≤ c0_2) (h : spec_l22Weight.f a0_0 a0_1 l0_2 a1_0 a1_1 a1_2 a1_3 = some r) :
  Calls Try.prog 94 #[.agg #[.int .i64 a0_0, .int .i64 a0_1, .slice A0_2 l0_2.length c0_2], .agg #[.int .i64 a1_0, .int .i64 a1_1, .int .i64 a1_2, .int .i64 a1_3]] w fun e w' => e = .returned (.int .i64 r) ∧ Below w.heap.size w w' := by
 have hu26 := Try.underlying26
 have hu35 := Try.underlying35
 have HR0_2 := Aside0.mk hr0_2
 have HC0_2 := Aside0.mk hc0_2
 clear hr0_2 hc0_2
 have HB := Aside0.mk (Below.refl w.heap.size w)
 have H : ((some (([1, 2, 3, 5, 2] : List Int) : List Int)).bind fun y931 => (if 0 ≤ a1_0 then (if a1_0 < (y931.length : Int) then ((spec_l22Middle.f a1_1 a0_1).bind fun t935 => (if t935 = true then ((spec_l22Middle.f a1_2 a0_0).bind fun t936 => (if t936 = true then (some (wrap64 (2 * (wrap64 (a1_3 * (rd y931 a1_0)))))) else (some (wrap64 (a1_3 * (rd y931 a1_0)))))) else (some (wrap64 (a1_3 * (rd y931 a1_0)))))) else (none)) else (none))) = some r := h
 clear h
 obtain ⟨y931, hy931⟩ : ∃ y_ : List Int, y_ = (([1, 2, 3, 5, 2] : List Int)) := ⟨_, rfl⟩
 replace H : (if 0 ≤ a1_0 then (if a1_0 < (y931.length : Int) then ((spec_l22Middle.f a1_1 a0_1).bind fun t935 => (if t935 = true then ((spec_l22Middle.f a1_2 a0_0).bind fun t936 => (if t936 = true then (some (wrap64 (2 * (wrap64 (a1_3 * (rd y931 a1_0)))))) else (some (wrap64 (a1_3 * (rd y931 a1_0)))))) else (some (wrap64 (a1_3 * (rd y931 a1_0)))))) else (none)) else (none)) = some r := by first | (rw [hy931]; with_reducible exact H) | (have H2_ := (Option.bind_some _ _).symm.trans H; rw [hy931]; with_reducible exact H2_) | (have H2_ := (Option.bind_some _ _).symm.trans H; with_reducible exact H2_) | with_reducible exact H | (rw [hy931]; exact H) | exact H
 have Ny931 := Aside0.mk hy931
 clear hy931
 by_cases c3 : 0 ≤ a1_0
 ·rw [if_pos c3] at H
  have c3b0 : decide (0 ≤ a1_0) = true := decide_eq_true c3
  clear c3
  by_cases c4 : a1_0 < (y931.length : Int)
  ·rw [if_pos c4] at H
   have c4b0 : decide (a1_0 < (y931.length : Int)) = true := decide_eq_true c4
   clear c4
   replace H := Option.bind_eq_some_iff.mp H
   obtain ⟨t935, A50, H⟩ := H
   have A5 := Aside0.mk A50
   clear A50
   by_cases c6 : t935 = true
   ·subst c6
    rw [if_pos rfl] at H
    replace H := Option.bind_eq_some_iff.mp H
    obtain ⟨t936, A70, H⟩ := H
    have A7 := Aside0.mk A70
    clear A70
    by_cases c8 : t936 = true
    ·subst c8
     rw [if_pos rfl] at H
     obtain rfl := Option.some.inj H
     go_enter Try.func94, Try.ntmps94
     try go_wp2_with (first | ((with_reducible refine gate_dst (N := 2) rfl ?_); refine box_event ?hg (N := 2) ?hd (cs := #[.int .i64 a0_0, .int .i64 a0_1, .slice A0_2 l0_2.length c0_2]) (t := 26) ?hr ?_; (case hd => rfl); (case hg => rfl); (case hr => first | (go_simp; done) | (go_simp; rfl)); intro gb929 hg w9 hbox hb; have n0_ := Aside0.mk (below_step (by repeat (first | (with_reducible first | exact HB.out | apply below_alloc | apply pw_below_drewN | apply below_drew1) | exact HB.out)) hb); have n1_ := Aside0.mk (hbox); have n2_ := Aside0.mk ((by rw [hg]; exact (below_size (by repeat (first | (with_reducible first | exact HB.out | apply below_alloc | apply pw_below_drewN | apply below_drew1) | exact HB.out))) : w.heap.size ≤ gb929)); have n3_ := Aside0.mk ((by rw [hg]; exact (below_size (by repeat (first | (with_reducible first | exact HB.out | apply below_alloc | apply pw_below_drewN | apply below_drew1) | exact HB.out))) : w.heap.size ≤ gb929)); clear HB; have HB := n0_; have BK929 := n1_; have GW929 := n2_; have GE929 := n3_; clear n0_ n1_ n2_ n3_; clear hb hbox hg) | ((with_reducible refine gate_dst (N := 3) rfl ?_); refine box_event ?hg (N := 3) ?hd (cs := #[.int .i64 a1_0, .int .i64 a1_1, .int .i64 a1_2, .int .i64 a1_3]) (t := 35) ?hr ?_; (case hd => rfl); (case hg => rfl); (case hr => first | (go_simp; done) | (go_simp; rfl)); intro gb930 hg w10 hbox hb; have n0_ := Aside0.mk (blk_below (g := gb929) (o := .cells #[.int .i64 a0_0, .int .i64 a0_1, .slice A0_2 l0_2.length c0_2] 26 (0, 0)) (by (with_reducible repeat (first | refine blk_drewN ?_ _ | refine blk_drew ?_ | refine blk_alloc ?_ _)); exact BK929.out) hb); have n1_ := Aside0.mk (below_step (by repeat (first | (with_reducible first | exact HB.out | apply below_alloc | apply pw_below_drewN | apply below_drew1 | refine below_set ?_ GE929.out) | exact HB.out)) hb); have n2_ := Aside0.mk (hbox); have n3_ := Aside0.mk ((by rw [hg]; exact (below_size (by repeat (first | (with_reducible first | exact HB.out | apply below_alloc | apply pw_below_drewN | apply below_drew1 | refine below_set ?_ GE929.out) | exact HB.out))) : w.heap.size ≤ gb930)); have n4_ := Aside0.mk ((by rw [hg]; exact (below_size (by repeat (first | (with_reducible first | exact HB.out | apply below_alloc | apply pw_below_drewN | apply below_drew1 | refine below_set ?_ GE929.out) | exact HB.out))) : w.heap.size ≤ gb930)); have n5_ := Aside0.mk ((by rw [hg]; exact Nat.ne_of_lt (blk_lt (g := gb929) (o := .cells #[.int .i64 a0_0, .int .i64 a0_1, .slice A0_2 l0_2.length c0_2] 26 (0, 0)) (by (with_reducible repeat (first | refine blk_drewN ?_ _ | refine blk_drew ?_ | refine blk_alloc ?_ _)); exact BK929.out)) : gb929 ≠ gb930)); have n6_ := Aside0.mk ((by rw [hg]; exact Nat.ne_of_gt (blk_lt (g := gb929) (o := .cells #[.int .i64 a0_0, .int .i64 a0_1, .slice A0_2 l0_2.length c0_2] 26 (0, 0)) (by (with_reducible repeat (first | refine blk_drewN ?_ _ | refine blk_drew ?_ | refine blk_alloc ?_ _)); exact BK929.out)) : gb930 ≠ gb929)); clear BK929; clear HB; have BK929 := n0_; have HB := n1_; have BK930 := n2_; have GW930 := n3_; have GE930 := n4_; have NB929_930 := n5_; have NB930_929 := n6_; clear n0_ n1_ n2_ n3_ n4_ n5_ n6_; clear hb hbox hg))
     have pi934 : (0 ≤ (a1_0 : Int)) = True := eq_true (of_decide_eq_true (by first | (with_reducible assumption) | assumption))
     have qi934 : (a1_0 < (y931.length : Int)) = True := eq_true (of_decide_eq_true (by first | (with_reducible assumption) | assumption))
     have n0_ := Aside0.mk (blk_drew BK929.out)
     have n1_ := Aside0.mk (blk_drew BK930.out)
     have n2_ := Aside0.mk (below_drew1 HB.out)
     clear BK929
     clear BK930
     clear HB
     have BK929 := n0_
     have BK930 := n1_
     have HB := n2_
     clear n0_ n1_ n2_
     refine start_ (n := 9) (S := fun w' => w'.cell? ⟨gb930, 0, none⟩ = some (.int .i64 a1_0) ∧ w'.cell? ⟨gb930, 1, none⟩ = some (.int .i64 a1_1) ∧ w'.cell? ⟨gb930, 2, none⟩ = some (.int .i64 a1_2) ∧ w'.cell? ⟨gb930, 3, none⟩ = some (.int .i64 a1_3)) (ds := []) #[false, false, false, false, false, false, false, false, false] (by kernel_rfl) rfl rfl ⟨(blk_cell BK930.out 0).trans rfl, (blk_cell BK930.out 1).trans rfl, (blk_cell BK930.out 2).trans rfl, (blk_cell BK930.out 3).trans rfl⟩ (fun hHeld => ?_); refine with_tabW spec_l22Weight.tab1 spec_l22Weight.bits1 (fun HT_ HW_ => ?_)
     generalize w10.drew = w11 at BK929 BK930 HB hHeld ⊢
     refine pure_ (i := 0) (N := some 6) (v := ?_) (a' := ?_) #[true, false, false, false, false, false, false, false, false] rfl rfl (any_of HT_.out (by kernel_rfl)) (fun _ _ _ h => h) (Or.inl ⟨by rfl, ?_⟩) ?_ ?_
     rotate_left
     ·intro w'
      go_simp
      with_reducible rfl
     rotate_left
     ·simp only [Act.put, sS_, sZ_, sC_, i64_w, i32_w]
      rfl
     refine pure_ (i := 3) (N := some 9) (v := ?_) (a' := ?_) #[true, false, false, true, false, false, false, false, false] rfl rfl (any_of HT_.out (by kernel_rfl)) (fun _ _ _ h => h) (Or.inl ⟨by rfl, ?_⟩) ?_ ?_
     rotate_left
     ·intro w'
      go_simp
      with_reducible rfl
     rotate_left
     ·simp only [Act.put, sS_, sZ_, sC_, i64_w, i32_w]
      rfl
     refine take_ (i := 1) (N := some 7) (v := ?_) (a' := ?_) #[true, true, false, true, false, false, false, false, false] rfl rfl (take_ofW HT_.out HW_.out (by kernel_rfl)) (fun _ _ _ h => h) (Or.inl ⟨by rfl, ?_⟩) hHeld ?_ ?_
     rotate_left
     ·rintro w' ⟨s0, s1, s2, s3⟩
      go_simp
      with_reducible rfl
     rotate_left
     ·simp only [Act.put, sS_, sZ_, sC_, i64_w, i32_w]
      rfl
     refine take_ (i := 4) (N := some 10) (v := ?_) (a' := ?_) #[true, true, false, true, true, false, false, false, false] rfl rfl (take_ofW HT_.out HW_.out (by kernel_rfl)) (fun _ _ _ h => h) (Or.inl ⟨by rfl, ?_⟩) hHeld ?_ ?_
     rotate_left
     ·rintro w' ⟨s0, s1, s2, s3⟩
      go_simp
      with_reducible rfl
     rotate_left
     ·simp only [Act.put, sS_, sZ_, sC_, i64_w, i32_w]
      rfl
     refine one_ (i := 2) (N := some 8) #[true, true, true, true, true, false, false, false, false] rfl rfl (one_of HT_.out (by kernel_rfl)) (by decide) (fun K hK => ?_)
     refine Kd.R_lit_step (Kd.int .i64) _ 3 ?hg (N := 8) ?hd (xs := ([1, 2, 3, 5, 2] : List Int)) (inner := [.int .i64 1, .int .i64 2, .int .i64 3, .int .i64 5, .int .i64 2]) (ok := fun _ => True) (okp := fun _ => True) ?hr ?hp (fun _ hk => hk) trivial (Below.refl _ _) (Nat.le_refl _) (by simp) ?_; (case hd => rfl); (case hg => rfl); (case hr => first | (go_simp; done) | (go_simp; rfl)); (case hp => exact (Reps.one (show Kd.M (Kd.int .i64) _ _ _ 1 [.int .i64 1] from rfl) (Reps.one (show Kd.M (Kd.int .i64) _ _ _ 2 [.int .i64 2] from rfl) (Reps.one (show Kd.M (Kd.int .i64) _ _ _ 3 [.int .i64 3] from rfl) (Reps.one (show Kd.M (Kd.int .i64) _ _ _ 5 [.int .i64 5] from rfl) (Reps.one (show Kd.M (Kd.int .i64) _ _ _ 2 [.int .i64 2] from rfl) (Reps.none _ _)))))))
     intro v932 w12 ho13 hb hg_ hnew_
     clear hg_ hnew_
     (first | rw [← Ny931.out] at ho13 | (simp only [Int.reduceToNat] at ho13; rw [← Ny931.out] at ho13))
     have n0_ := Aside0.mk (Kd.R_lower ho13 (below_size (by repeat (first | (with_reducible first | exact HB.out | apply below_alloc | apply pw_below_drewN | apply below_drew1 | refine below_set ?_ GE929.out | refine below_set ?_ GE930.out) | exact HB.out))))
     have n1_ := Aside0.mk (blk_below (g := gb929) (o := .cells #[.int .i64 a0_0, .int .i64 a0_1, .slice A0_2 l0_2.length c0_2] 26 (0, 0)) (by (with_reducible repeat (first | refine blk_drewN ?_ _ | refine blk_drew ?_ | refine blk_alloc ?_ _)); exact BK929.out) hb)
     have n2_ := Aside0.mk (blk_below (g := gb930) (o := .cells #[.int .i64 a1_0, .int .i64 a1_1, .int .i64 a1_2, .int .i64 a1_3] 35 (0, 0)) (by (with_reducible repeat (first | refine blk_drewN ?_ _ | refine blk_drew ?_ | refine blk_alloc ?_ _)); exact BK930.out) hb)
     have n3_ := Aside0.mk (below_step (by repeat (first | (with_reducible first | exact HB.out | apply below_alloc | apply pw_below_drewN | apply below_drew1 | refine below_set ?_ GE929.out | refine below_set ?_ GE930.out) | exact HB.out)) hb)
     clear BK929
     clear BK930
     clear HB
     have HO933 := n0_
     have BK929 := n1_
     have BK930 := n2_
     have HB := n3_
     clear n0_ n1_ n2_ n3_
     clear hb ho13
     obtain ⟨Ao14, co14, eo14⟩ := Kd.R_slice HO933.out
     subst eo14
     obtain ⟨ado14, fo14, _⟩ := Kd.at_int (Kd.R_reads' HO933.out).2.2 0 (by decide) (by rw [Ny931.out]; simp)
     cases fo14
     refine hK.out _ _ ⟨(blk_cell BK930.out 0).trans rfl, (blk_cell BK930.out 1).trans rfl, (blk_cell BK930.out 2).trans rfl, (blk_cell BK930.out 3).trans rfl⟩ (fun hHeld => ?_)
     clear hK K
     refine norm_ (a' := ?_) ?_ ?_
     rotate_left
     ·show Act.put _ (some 8) _ = _
      simp only [Act.put, sS_, sZ_, sC_, i64_w, i32_w]
      rfl
     refine pure_ (i := 5) (N := some 11) (v := ?_) (a' := ?_) #[true, true, true, true, true, true, false, false, false] rfl rfl (any_of HT_.out (by kernel_rfl)) (fun _ _ _ h => h) (Or.inl ⟨by rfl, ?_⟩) ?_ ?_
     rotate_left
     ·intro w'
      go_simp
      with_reducible rfl
     rotate_left
     ·simp only [Act.put, sS_, sZ_, sC_, i64_w, i32_w]
      rfl
     refine one_ (i := 6) (N := some 12) #[true, true, true, true, true, true, true, false, false] rfl rfl (one_of HT_.out (by kernel_rfl)) (by decide) (fun K hK => ?_)
     (have p934 : 0 ≤ (a1_0 : Int) := of_decide_eq_true (by first | (with_reducible assumption) | assumption); have q934 : a1_0 < (y931.length : Int) := of_decide_eq_true (by first | (with_reducible assumption) | assumption); obtain ⟨ad934, e934, hx934_0⟩ := Kd.at_int (Kd.R_reads' HO933.out).2.2 a1_0 p934 q934; obtain rfl : ado14 = ad934 := (by injection e934))
     refine value_ (w1 := ?_) (v := ?_) (by rfl) rfl ?_ ?_
     rotate_left 2
     ·go_simp
      constructor
      ·rfl
      ·rfl
     clear hx934_0
     refine hK.out _ _ ⟨(blk_cell BK930.out 0).trans rfl, (blk_cell BK930.out 1).trans rfl, (blk_cell BK930.out 2).trans rfl, (blk_cell BK930.out 3).trans rfl⟩ (fun hHeld => ?_)
     clear hK K
     refine norm_ (a' := ?_) ?_ ?_
     rotate_left
     ·show Act.put _ (some 12) _ = _
      simp only [Act.put, sS_, sZ_, sC_, i64_w, i32_w]
      rfl
     refine pure_ (i := 7) (N := some 13) (v := ?_) (a' := ?_) #[true, true, true, true, true, true, true, true, false] rfl rfl (any_of HT_.out (by kernel_rfl)) (fun _ _ _ h => h) (Or.inl ⟨by rfl, ?_⟩) ?_ ?_
     rotate_left
     ·intro w'
      go_simp
      with_reducible rfl
     rotate_left
     ·simp only [Act.put, sS_, sZ_, sC_, i64_w, i32_w]
      rfl
     refine pure_ (i := 8) (N := some 5) (v := ?_) (a' := ?_) #[true, true, true, true, true, true, true, true, true] rfl rfl (any_of HT_.out (by kernel_rfl)) (fun _ _ _ h => h) (Or.inl ⟨by rfl, ?_⟩) ?_ ?_
     rotate_left
     ·intro w'
      go_simp
      with_reducible rfl
     rotate_left
     ·simp only [Act.put, sS_, sZ_, sC_, i64_w, i32_w]
      rfl
     refine done_ (done_of HT_.out (by kernel_rfl)) ?_
     have hnb15 := NB930_929.out
     have hnc15 := NB929_930.out
     have hcz16_0 : w12.cell? ⟨gb930, 0, none⟩ = some (.int .i64 a1_0) := (blk_cell BK930.out 0).trans rfl
     have hcz16_1 : w12.cell? ⟨gb930, 1, none⟩ = some (.int .i64 a1_1) := (blk_cell BK930.out 1).trans rfl
     have hcz16_2 : w12.cell? ⟨gb930, 2, none⟩ = some (.int .i64 a1_2) := (blk_cell BK930.out 2).trans rfl
     have hcz16_3 : w12.cell? ⟨gb930, 3, none⟩ = some (.int .i64 a1_3) := (blk_cell BK930.out 3).trans rfl
     have hfz16_0 := blk_frozen BK930.out 0
     have hfz16_1 := blk_frozen BK930.out 1
     have hfz16_2 := blk_frozen BK930.out 2
     have hfz16_3 := blk_frozen BK930.out 3
     have hcz17_0 : w12.cell? ⟨gb929, 0, none⟩ = some (.int .i64 a0_0) := (blk_cell BK929.out 0).trans rfl
     have hcz17_1 : w12.cell? ⟨gb929, 1, none⟩ = some (.int .i64 a0_1) := (blk_cell BK929.out 1).trans rfl
     have hcz17_2 : w12.cell? ⟨gb929, 2, none⟩ = some (.slice A0_2 l0_2.length c0_2) := (blk_cell BK929.out 2).trans rfl
     have hfz17_0 := blk_frozen BK929.out 0
     have hfz17_1 := blk_frozen BK929.out 1
     have hfz17_2 := blk_frozen BK929.out 2
     try go_wp2_with (first | ((with_reducible refine gate_callee (f := 146) rfl ?_); refine goesL_ (some 18) rfl rfl Try.func146 (by kernel_rfl) rfl #[.int .i64 a1_1, .int .i64 a0_1] rfl (by (try simp only [List.map_toArray, List.map_cons, List.map_nil]); first | done | rfl | (simp only [List.length_drop, List.length_take]; rfl)) ?_; (with_reducible refine (spec_l22Middle.calls a1_1 a0_1 true _ A5.out).mono ?_); rintro e w' ⟨rfl, ⟨nd, rfl⟩⟩; refine ⟨_, rfl, ?_⟩) | (go_at_call 146; (with_reducible refine (spec_l22Middle.calls a1_2 a0_0 true _ A7.out).mono ?_); rintro e w' ⟨rfl, ⟨nd, rfl⟩⟩))
     go_ret
     exact ⟨by first | rfl | (simp [errW_none, errW_some] <;> rfl) | (simp [*, errW_none, errW_some] <;> rfl) | (simp [wrap64]; done), by repeat (first | (with_reducible first | exact HB.out | apply below_alloc | apply pw_below_drewN | apply below_drew1 | refine below_set ?_ GE929.out | refine below_set ?_ GE930.out) | exact HB.out)⟩
    ·replace c8 := Bool.eq_false_iff.mpr c8
     subst c8
     rw [if_neg (show ¬ (false = true) by decide)] at H
     obtain rfl := Option.some.inj H
     go_enter Try.func94, Try.ntmps94
     try go_wp2_with (first | ((with_reducible refine gate_dst (N := 2) rfl ?_); refine box_event ?hg (N := 2) ?hd (cs := #[.int .i64 a0_0, .int .i64 a0_1, .slice A0_2 l0_2.length c0_2]) (t := 26) ?hr ?_; (case hd => rfl); (case hg => rfl); (case hr => first | (go_simp; done) | (go_simp; rfl)); intro gb929 hg w18 hbox hb; have n0_ := Aside0.mk (below_step (by repeat (first | (with_reducible first | exact HB.out | apply below_alloc | apply pw_below_drewN | apply below_drew1) | exact HB.out)) hb); have n1_ := Aside0.mk (hbox); have n2_ := Aside0.mk ((by rw [hg]; exact (below_size (by repeat (first | (with_reducible first | exact HB.out | apply below_alloc | apply pw_below_drewN | apply below_drew1) | exact HB.out))) : w.heap.size ≤ gb929)); have n3_ := Aside0.mk ((by rw [hg]; exact (below_size (by repeat (first | (with_reducible first | exact HB.out | apply below_alloc | apply pw_below_drewN | apply below_drew1) | exact HB.out))) : w.heap.size ≤ gb929)); clear HB; have HB := n0_; have BK929 := n1_; have GW929 := n2_; have GE929 := n3_; clear n0_ n1_ n2_ n3_; clear hb hbox hg) | ((with_reducible refine gate_dst (N := 3) rfl ?_); refine box_event ?hg (N := 3) ?hd (cs := #[.int .i64 a1_0, .int .i64 a1_1, .int .i64 a1_2, .int .i64 a1_3]) (t := 35) ?hr ?_; (case hd => rfl); (case hg => rfl); (case hr => first | (go_simp; done) | (go_simp; rfl)); intro gb930 hg w19 hbox hb; have n0_ := Aside0.mk (blk_below (g := gb929) (o := .cells #[.int .i64 a0_0, .int .i64 a0_1, .slice A0_2 l0_2.length c0_2] 26 (0, 0)) (by (with_reducible repeat (first | refine blk_drewN ?_ _ | refine blk_drew ?_ | refine blk_alloc ?_ _)); exact BK929.out) hb); have n1_ := Aside0.mk (below_step (by repeat (first | (with_reducible first | exact HB.out | apply below_alloc | apply pw_below_drewN | apply below_drew1 | refine below_set ?_ GE929.out) | exact HB.out)) hb); have n2_ := Aside0.mk (hbox); have n3_ := Aside0.mk ((by rw [hg]; exact (below_size (by repeat (first | (with_reducible first | exact HB.out | apply below_alloc | apply pw_below_drewN | apply below_drew1 | refine below_set ?_ GE929.out) | exact HB.out))) : w.heap.size ≤ gb930)); have n4_ := Aside0.mk ((by rw [hg]; exact (below_size (by repeat (first | (with_reducible first | exact HB.out | apply below_alloc | apply pw_below_drewN | apply below_drew1 | refine below_set ?_ GE929.out) | exact HB.out))) : w.heap.size ≤ gb930)); have n5_ := Aside0.mk ((by rw [hg]; exact Nat.ne_of_lt (blk_lt (g := gb929) (o := .cells #[.int .i64 a0_0, .int .i64 a0_1, .slice A0_2 l0_2.length c0_2] 26 (0, 0)) (by (with_reducible repeat (first | refine blk_drewN ?_ _ | refine blk_drew ?_ | refine blk_alloc ?_ _)); exact BK929.out)) : gb929 ≠ gb930)); have n6_ := Aside0.mk ((by rw [hg]; exact Nat.ne_of_gt (blk_lt (g := gb929) (o := .cells #[.int .i64 a0_0, .int .i64 a0_1, .slice A0_2 l0_2.length c0_2] 26 (0, 0)) (by (with_reducible repeat (first | refine blk_drewN ?_ _ | refine blk_drew ?_ | refine blk_alloc ?_ _)); exact BK929.out)) : gb930 ≠ gb929)); clear BK929; clear HB; have BK929 := n0_; have HB := n1_; have BK930 := n2_; have GW930 := n3_; have GE930 := n4_; have NB929_930 := n5_; have NB930_929 := n6_; clear n0_ n1_ n2_ n3_ n4_ n5_ n6_; clear hb hbox hg))
     have pi934 : (0 ≤ (a1_0 : Int)) = True := eq_true (of_decide_eq_true (by first | (with_reducible assumption) | assumption))
     have qi934 : (a1_0 < (y931.length : Int)) = True := eq_true (of_decide_eq_true (by first | (with_reducible assumption) | assumption))
     have n0_ := Aside0.mk (blk_drew BK929.out)
     have n1_ := Aside0.mk (blk_drew BK930.out)
     have n2_ := Aside0.mk (below_drew1 HB.out)
     clear BK929
     clear BK930
     clear HB
     have BK929 := n0_
     have BK930 := n1_
     have HB := n2_
     clear n0_ n1_ n2_
     refine start_ (n := 9) (S := fun w' => w'.cell? ⟨gb930, 0, none⟩ = some (.int .i64 a1_0) ∧ w'.cell? ⟨gb930, 1, none⟩ = some (.int .i64 a1_1) ∧ w'.cell? ⟨gb930, 2, none⟩ = some (.int .i64 a1_2) ∧ w'.cell? ⟨gb930, 3, none⟩ = some (.int .i64 a1_3)) (ds := []) #[false, false, false, false, false, false, false, false, false] (by kernel_rfl) rfl rfl ⟨(blk_cell BK930.out 0).trans rfl, (blk_cell BK930.out 1).trans rfl, (blk_cell BK930.out 2).trans rfl, (blk_cell BK930.out 3).trans rfl⟩ (fun hHeld => ?_); refine with_tabW spec_l22Weight.tab1 spec_l22Weight.bits1 (fun HT_ HW_ => ?_)
     generalize w19.drew = w20 at BK929 BK930 HB hHeld ⊢
     refine pure_ (i := 0) (N := some 6) (v := ?_) (a' := ?_) #[true, false, false, false, false, false, false, false, false] rfl rfl (any_of HT_.out (by kernel_rfl)) (fun _ _ _ h => h) (Or.inl ⟨by rfl, ?_⟩) ?_ ?_
     rotate_left
     ·intro w'
      go_simp
      with_reducible rfl
     rotate_left
     ·simp only [Act.put, sS_, sZ_, sC_, i64_w, i32_w]
      rfl
     refine pure_ (i := 3) (N := some 9) (v := ?_) (a' := ?_) #[true, false, false, true, false, false, false, false, false] rfl rfl (any_of HT_.out (by kernel_rfl)) (fun _ _ _ h => h) (Or.inl ⟨by rfl, ?_⟩) ?_ ?_
     rotate_left
     ·intro w'
      go_simp
      with_reducible rfl
     rotate_left
     ·simp only [Act.put, sS_, sZ_, sC_, i64_w, i32_w]
      rfl
     refine take_ (i := 1) (N := some 7) (v := ?_) (a' := ?_) #[true, true, false, true, false, false, false, false, false] rfl rfl (take_ofW HT_.out HW_.out (by kernel_rfl)) (fun _ _ _ h => h) (Or.inl ⟨by rfl, ?_⟩) hHeld ?_ ?_
     rotate_left
     ·rintro w' ⟨s0, s1, s2, s3⟩
      go_simp
      with_reducible rfl
     rotate_left
     ·simp only [Act.put, sS_, sZ_, sC_, i64_w, i32_w]
      rfl
     refine take_ (i := 4) (N := some 10) (v := ?_) (a' := ?_) #[true, true, false, true, true, false, false, false, false] rfl rfl (take_ofW HT_.out HW_.out (by kernel_rfl)) (fun _ _ _ h => h) (Or.inl ⟨by rfl, ?_⟩) hHeld ?_ ?_
     rotate_left
     ·rintro w' ⟨s0, s1, s2, s3⟩
      go_simp
      with_reducible rfl
     rotate_left
     ·simp only [Act.put, sS_, sZ_, sC_, i64_w, i32_w]
      rfl
     refine one_ (i := 2) (N := some 8) #[true, true, true, true, true, false, false, false, false] rfl rfl (one_of HT_.out (by kernel_rfl)) (by decide) (fun K hK => ?_)
     refine Kd.R_lit_step (Kd.int .i64) _ 3 ?hg (N := 8) ?hd (xs := ([1, 2, 3, 5, 2] : List Int)) (inner := [.int .i64 1, .int .i64 2, .int .i64 3, .int .i64 5, .int .i64 2]) (ok := fun _ => True) (okp := fun _ => True) ?hr ?hp (fun _ hk => hk) trivial (Below.refl _ _) (Nat.le_refl _) (by simp) ?_; (case hd => rfl); (case hg => rfl); (case hr => first | (go_simp; done) | (go_simp; rfl)); (case hp => exact (Reps.one (show Kd.M (Kd.int .i64) _ _ _ 1 [.int .i64 1] from rfl) (Reps.one (show Kd.M (Kd.int .i64) _ _ _ 2 [.int .i64 2] from rfl) (Reps.one (show Kd.M (Kd.int .i64) _ _ _ 3 [.int .i64 3] from rfl) (Reps.one (show Kd.M (Kd.int .i64) _ _ _ 5 [.int .i64 5] from rfl) (Reps.one (show Kd.M (Kd.int .i64) _ _ _ 2 [.int .i64 2] from rfl) (Reps.none _ _)))))))
     intro v932 w21 ho22 hb hg_ hnew_
     clear hg_ hnew_
     (first | rw [← Ny931.out] at ho22 | (simp only [Int.reduceToNat] at ho22; rw [← Ny931.out] at ho22))
     have n0_ := Aside0.mk (Kd.R_lower ho22 (below_size (by repeat (first | (with_reducible first | exact HB.out | apply below_alloc | apply pw_below_drewN | apply below_drew1 | refine below_set ?_ GE929.out | refine below_set ?_ GE930.out) | exact HB.out))))
     have n1_ := Aside0.mk (blk_below (g := gb929) (o := .cells #[.int .i64 a0_0, .int .i64 a0_1, .slice A0_2 l0_2.length c0_2] 26 (0, 0)) (by (with_reducible repeat (first | refine blk_drewN ?_ _ | refine blk_drew ?_ | refine blk_alloc ?_ _)); exact BK929.out) hb)
     have n2_ := Aside0.mk (blk_below (g := gb930) (o := .cells #[.int .i64 a1_0, .int .i64 a1_1, .int .i64 a1_2, .int .i64 a1_3] 35 (0, 0)) (by (with_reducible repeat (first | refine blk_drewN ?_ _ | refine blk_drew ?_ | refine blk_alloc ?_ _)); exact BK930.out) hb)
     have n3_ := Aside0.mk (below_step (by repeat (first | (with_reducible first | exact HB.out | apply below_alloc | apply pw_below_drewN | apply below_drew1 | refine below_set ?_ GE929.out | refine below_set ?_ GE930.out) | exact HB.out)) hb)
     clear BK929
     clear BK930
     clear HB
     have HO933 := n0_
     have BK929 := n1_
     have BK930 := n2_
     have HB := n3_
     clear n0_ n1_ n2_ n3_
     clear hb ho22
     obtain ⟨Ao23, co23, eo23⟩ := Kd.R_slice HO933.out
     subst eo23
     obtain ⟨ado23, fo23, _⟩ := Kd.at_int (Kd.R_reads' HO933.out).2.2 0 (by decide) (by rw [Ny931.out]; simp)
     cases fo23
     refine hK.out _ _ ⟨(blk_cell BK930.out 0).trans rfl, (blk_cell BK930.out 1).trans rfl, (blk_cell BK930.out 2).trans rfl, (blk_cell BK930.out 3).trans rfl⟩ (fun hHeld => ?_)
     clear hK K
     refine norm_ (a' := ?_) ?_ ?_
     rotate_left
     ·show Act.put _ (some 8) _ = _
      simp only [Act.put, sS_, sZ_, sC_, i64_w, i32_w]
      rfl
     refine pure_ (i := 5) (N := some 11) (v := ?_) (a' := ?_) #[true, true, true, true, true, true, false, false, false] rfl rfl (any_of HT_.out (by kernel_rfl)) (fun _ _ _ h => h) (Or.inl ⟨by rfl, ?_⟩) ?_ ?_
     rotate_left
     ·intro w'
      go_simp
      with_reducible rfl
     rotate_left
     ·simp only [Act.put, sS_, sZ_, sC_, i64_w, i32_w]
      rfl
     refine one_ (i := 6) (N := some 12) #[true, true, true, true, true, true, true, false, false] rfl rfl (one_of HT_.out (by kernel_rfl)) (by decide) (fun K hK => ?_)
     (have p934 : 0 ≤ (a1_0 : Int) := of_decide_eq_true (by first | (with_reducible assumption) | assumption); have q934 : a1_0 < (y931.length : Int) := of_decide_eq_true (by first | (with_reducible assumption) | assumption); obtain ⟨ad934, e934, hx934_0⟩ := Kd.at_int (Kd.R_reads' HO933.out).2.2 a1_0 p934 q934; obtain rfl : ado23 = ad934 := (by injection e934))
     refine value_ (w1 := ?_) (v := ?_) (by rfl) rfl ?_ ?_
     rotate_left 2
     ·go_simp
      constructor
      ·rfl
      ·rfl
     clear hx934_0
     refine hK.out _ _ ⟨(blk_cell BK930.out 0).trans rfl, (blk_cell BK930.out 1).trans rfl, (blk_cell BK930.out 2).trans rfl, (blk_cell BK930.out 3).trans rfl⟩ (fun hHeld => ?_)
     clear hK K
     refine norm_ (a' := ?_) ?_ ?_
     rotate_left
     ·show Act.put _ (some 12) _ = _
      simp only [Act.put, sS_, sZ_, sC_, i64_w, i32_w]
      rfl
     refine pure_ (i := 7) (N := some 13) (v := ?_) (a' := ?_) #[true, true, true, true, true, true, true, true, false] rfl rfl (any_of HT_.out (by kernel_rfl)) (fun _ _ _ h => h) (Or.inl ⟨by rfl, ?_⟩) ?_ ?_
     rotate_left
     ·intro w'
      go_simp
      with_reducible rfl
     rotate_left
     ·simp only [Act.put, sS_, sZ_, sC_, i64_w, i32_w]
      rfl
     refine pure_ (i := 8) (N := some 5) (v := ?_) (a' := ?_) #[true, true, true, true, true, true, true, true, true] rfl rfl (any_of HT_.out (by kernel_rfl)) (fun _ _ _ h => h) (Or.inl ⟨by rfl, ?_⟩) ?_ ?_
     rotate_left
     ·intro w'
      go_simp
      with_reducible rfl
     rotate_left
     ·simp only [Act.put, sS_, sZ_, sC_, i64_w, i32_w]
      rfl
     refine done_ (done_of HT_.out (by kernel_rfl)) ?_
     have hnb24 := NB930_929.out
     have hnc24 := NB929_930.out
     have hcz25_0 : w21.cell? ⟨gb930, 0, none⟩ = some (.int .i64 a1_0) := (blk_cell BK930.out 0).trans rfl
     have hcz25_1 : w21.cell? ⟨gb930, 1, none⟩ = some (.int .i64 a1_1) := (blk_cell BK930.out 1).trans rfl
     have hcz25_2 : w21.cell? ⟨gb930, 2, none⟩ = some (.int .i64 a1_2) := (blk_cell BK930.out 2).trans rfl
     have hcz25_3 : w21.cell? ⟨gb930, 3, none⟩ = some (.int .i64 a1_3) := (blk_cell BK930.out 3).trans rfl
     have hfz25_0 := blk_frozen BK930.out 0
     have hfz25_1 := blk_frozen BK930.out 1
     have hfz25_2 := blk_frozen BK930.out 2
     have hfz25_3 := blk_frozen BK930.out 3
     have hcz26_0 : w21.cell? ⟨gb929, 0, none⟩ = some (.int .i64 a0_0) := (blk_cell BK929.out 0).trans rfl
     have hcz26_1 : w21.cell? ⟨gb929, 1, none⟩ = some (.int .i64 a0_1) := (blk_cell BK929.out 1).trans rfl
     have hcz26_2 : w21.cell? ⟨gb929, 2, none⟩ = some (.slice A0_2 l0_2.length c0_2) := (blk_cell BK929.out 2).trans rfl
     have hfz26_0 := blk_frozen BK929.out 0
     have hfz26_1 := blk_frozen BK929.out 1
     have hfz26_2 := blk_frozen BK929.out 2
     try go_wp2_with (first | ((with_reducible refine gate_callee (f := 146) rfl ?_); refine goesL_ (some 18) rfl rfl Try.func146 (by kernel_rfl) rfl #[.int .i64 a1_1, .int .i64 a0_1] rfl (by (try simp only [List.map_toArray, List.map_cons, List.map_nil]); first | done | rfl | (simp only [List.length_drop, List.length_take]; rfl)) ?_; (with_reducible refine (spec_l22Middle.calls a1_1 a0_1 true _ A5.out).mono ?_); rintro e w' ⟨rfl, ⟨nd, rfl⟩⟩; refine ⟨_, rfl, ?_⟩) | (go_at_call 146; (with_reducible refine (spec_l22Middle.calls a1_2 a0_0 false _ A7.out).mono ?_); rintro e w' ⟨rfl, ⟨nd, rfl⟩⟩))
     go_ret
     exact ⟨by first | rfl | (simp [errW_none, errW_some] <;> rfl) | (simp [*, errW_none, errW_some] <;> rfl) | (simp [wrap64]; done), by repeat (first | (with_reducible first | exact HB.out | apply below_alloc | apply pw_below_drewN | apply below_drew1 | refine below_set ?_ GE929.out | refine below_set ?_ GE930.out) | exact HB.out)⟩
   ·replace c6 := Bool.eq_false_iff.mpr c6
    subst c6
    rw [if_neg (show ¬ (false = true) by decide)] at H
    obtain rfl := Option.some.inj H
    go_enter Try.func94, Try.ntmps94
    try go_wp2_with (first | ((with_reducible refine gate_dst (N := 2) rfl ?_); refine box_event ?hg (N := 2) ?hd (cs := #[.int .i64 a0_0, .int .i64 a0_1, .slice A0_2 l0_2.length c0_2]) (t := 26) ?hr ?_; (case hd => rfl); (case hg => rfl); (case hr => first | (go_simp; done) | (go_simp; rfl)); intro gb929 hg w27 hbox hb; have n0_ := Aside0.mk (below_step (by repeat (first | (with_reducible first | exact HB.out | apply below_alloc | apply pw_below_drewN | apply below_drew1) | exact HB.out)) hb); have n1_ := Aside0.mk (hbox); have n2_ := Aside0.mk ((by rw [hg]; exact (below_size (by repeat (first | (with_reducible first | exact HB.out | apply below_alloc | apply pw_below_drewN | apply below_drew1) | exact HB.out))) : w.heap.size ≤ gb929)); have n3_ := Aside0.mk ((by rw [hg]; exact (below_size (by repeat (first | (with_reducible first | exact HB.out | apply below_alloc | apply pw_below_drewN | apply below_drew1) | exact HB.out))) : w.heap.size ≤ gb929)); clear HB; have HB := n0_; have BK929 := n1_; have GW929 := n2_; have GE929 := n3_; clear n0_ n1_ n2_ n3_; clear hb hbox hg) | ((with_reducible refine gate_dst (N := 3) rfl ?_); refine box_event ?hg (N := 3) ?hd (cs := #[.int .i64 a1_0, .int .i64 a1_1, .int .i64 a1_2, .int .i64 a1_3]) (t := 35) ?hr ?_; (case hd => rfl); (case hg => rfl); (case hr => first | (go_simp; done) | (go_simp; rfl)); intro gb930 hg w28 hbox hb; have n0_ := Aside0.mk (blk_below (g := gb929) (o := .cells #[.int .i64 a0_0, .int .i64 a0_1, .slice A0_2 l0_2.length c0_2] 26 (0, 0)) (by (with_reducible repeat (first | refine blk_drewN ?_ _ | refine blk_drew ?_ | refine blk_alloc ?_ _)); exact BK929.out) hb); have n1_ := Aside0.mk (below_step (by repeat (first | (with_reducible first | exact HB.out | apply below_alloc | apply pw_below_drewN | apply below_drew1 | refine below_set ?_ GE929.out) | exact HB.out)) hb); have n2_ := Aside0.mk (hbox); have n3_ := Aside0.mk ((by rw [hg]; exact (below_size (by repeat (first | (with_reducible first | exact HB.out | apply below_alloc | apply pw_below_drewN | apply below_drew1 | refine below_set ?_ GE929.out) | exact HB.out))) : w.heap.size ≤ gb930)); have n4_ := Aside0.mk ((by rw [hg]; exact (below_size (by repeat (first | (with_reducible first | exact HB.out | apply below_alloc | apply pw_below_drewN | apply below_drew1 | refine below_set ?_ GE929.out) | exact HB.out))) : w.heap.size ≤ gb930)); have n5_ := Aside0.mk ((by rw [hg]; exact Nat.ne_of_lt (blk_lt (g := gb929) (o := .cells #[.int .i64 a0_0, .int .i64 a0_1, .slice A0_2 l0_2.length c0_2] 26 (0, 0)) (by (with_reducible repeat (first | refine blk_drewN ?_ _ | refine blk_drew ?_ | refine blk_alloc ?_ _)); exact BK929.out)) : gb929 ≠ gb930)); have n6_ := Aside0.mk ((by rw [hg]; exact Nat.ne_of_gt (blk_lt (g := gb929) (o := .cells #[.int .i64 a0_0, .int .i64 a0_1, .slice A0_2 l0_2.length c0_2] 26 (0, 0)) (by (with_reducible repeat (first | refine blk_drewN ?_ _ | refine blk_drew ?_ | refine blk_alloc ?_ _)); exact BK929.out)) : gb930 ≠ gb929)); clear BK929; clear HB; have BK929 := n0_; have HB := n1_; have BK930 := n2_; have GW930 := n3_; have GE930 := n4_; have NB929_930 := n5_; have NB930_929 := n6_; clear n0_ n1_ n2_ n3_ n4_ n5_ n6_; clear hb hbox hg))
    have pi934 : (0 ≤ (a1_0 : Int)) = True := eq_true (of_decide_eq_true (by first | (with_reducible assumption) | assumption))
    have qi934 : (a1_0 < (y931.length : Int)) = True := eq_true (of_decide_eq_true (by first | (with_reducible assumption) | assumption))
    have n0_ := Aside0.mk (blk_drew BK929.out)
    have n1_ := Aside0.mk (blk_drew BK930.out)
    have n2_ := Aside0.mk (below_drew1 HB.out)
    clear BK929
    clear BK930
    clear HB
    have BK929 := n0_
    have BK930 := n1_
    have HB := n2_
    clear n0_ n1_ n2_
    refine start_ (n := 9) (S := fun w' => w'.cell? ⟨gb930, 0, none⟩ = some (.int .i64 a1_0) ∧ w'.cell? ⟨gb930, 1, none⟩ = some (.int .i64 a1_1) ∧ w'.cell? ⟨gb930, 2, none⟩ = some (.int .i64 a1_2) ∧ w'.cell? ⟨gb930, 3, none⟩ = some (.int .i64 a1_3)) (ds := []) #[false, false, false, false, false, false, false, false, false] (by kernel_rfl) rfl rfl ⟨(blk_cell BK930.out 0).trans rfl, (blk_cell BK930.out 1).trans rfl, (blk_cell BK930.out 2).trans rfl, (blk_cell BK930.out 3).trans rfl⟩ (fun hHeld => ?_); refine with_tabW spec_l22Weight.tab1 spec_l22Weight.bits1 (fun HT_ HW_ => ?_)
    generalize w28.drew = w29 at BK929 BK930 HB hHeld ⊢
    refine pure_ (i := 0) (N := some 6) (v := ?_) (a' := ?_) #[true, false, false, false, false, false, false, false, false] rfl rfl (any_of HT_.out (by kernel_rfl)) (fun _ _ _ h => h) (Or.inl ⟨by rfl, ?_⟩) ?_ ?_
    rotate_left
    ·intro w'
     go_simp
     with_reducible rfl
    rotate_left
    ·simp only [Act.put, sS_, sZ_, sC_, i64_w, i32_w]
     rfl
    refine pure_ (i := 3) (N := some 9) (v := ?_) (a' := ?_) #[true, false, false, true, false, false, false, false, false] rfl rfl (any_of HT_.out (by kernel_rfl)) (fun _ _ _ h => h) (Or.inl ⟨by rfl, ?_⟩) ?_ ?_
    rotate_left
    ·intro w'
     go_simp
     with_reducible rfl
    rotate_left
    ·simp only [Act.put, sS_, sZ_, sC_, i64_w, i32_w]
     rfl
    refine take_ (i := 1) (N := some 7) (v := ?_) (a' := ?_) #[true, true, false, true, false, false, false, false, false] rfl rfl (take_ofW HT_.out HW_.out (by kernel_rfl)) (fun _ _ _ h => h) (Or.inl ⟨by rfl, ?_⟩) hHeld ?_ ?_
    rotate_left
    ·rintro w' ⟨s0, s1, s2, s3⟩
     go_simp
     with_reducible rfl
    rotate_left
    ·simp only [Act.put, sS_, sZ_, sC_, i64_w, i32_w]
     rfl
    refine take_ (i := 4) (N := some 10) (v := ?_) (a' := ?_) #[true, true, false, true, true, false, false, false, false] rfl rfl (take_ofW HT_.out HW_.out (by kernel_rfl)) (fun _ _ _ h => h) (Or.inl ⟨by rfl, ?_⟩) hHeld ?_ ?_
    rotate_left
    ·rintro w' ⟨s0, s1, s2, s3⟩
     go_simp
     with_reducible rfl
    rotate_left
    ·simp only [Act.put, sS_, sZ_, sC_, i64_w, i32_w]
     rfl
    refine one_ (i := 2) (N := some 8) #[true, true, true, true, true, false, false, false, false] rfl rfl (one_of HT_.out (by kernel_rfl)) (by decide) (fun K hK => ?_)
    refine Kd.R_lit_step (Kd.int .i64) _ 3 ?hg (N := 8) ?hd (xs := ([1, 2, 3, 5, 2] : List Int)) (inner := [.int .i64 1, .int .i64 2, .int .i64 3, .int .i64 5, .int .i64 2]) (ok := fun _ => True) (okp := fun _ => True) ?hr ?hp (fun _ hk => hk) trivial (Below.refl _ _) (Nat.le_refl _) (by simp) ?_; (case hd => rfl); (case hg => rfl); (case hr => first | (go_simp; done) | (go_simp; rfl)); (case hp => exact (Reps.one (show Kd.M (Kd.int .i64) _ _ _ 1 [.int .i64 1] from rfl) (Reps.one (show Kd.M (Kd.int .i64) _ _ _ 2 [.int .i64 2] from rfl) (Reps.one (show Kd.M (Kd.int .i64) _ _ _ 3 [.int .i64 3] from rfl) (Reps.one (show Kd.M (Kd.int .i64) _ _ _ 5 [.int .i64 5] from rfl) (Reps.one (show Kd.M (Kd.int .i64) _ _ _ 2 [.int .i64 2] from rfl) (Reps.none _ _)))))))
    intro v932 w30 ho31 hb hg_ hnew_
    clear hg_ hnew_
    (first | rw [← Ny931.out] at ho31 | (simp only [Int.reduceToNat] at ho31; rw [← Ny931.out] at ho31))
    have n0_ := Aside0.mk (Kd.R_lower ho31 (below_size (by repeat (first | (with_reducible first | exact HB.out | apply below_alloc | apply pw_below_drewN | apply below_drew1 | refine below_set ?_ GE929.out | refine below_set ?_ GE930.out) | exact HB.out))))
    have n1_ := Aside0.mk (blk_below (g := gb929) (o := .cells #[.int .i64 a0_0, .int .i64 a0_1, .slice A0_2 l0_2.length c0_2] 26 (0, 0)) (by (with_reducible repeat (first | refine blk_drewN ?_ _ | refine blk_drew ?_ | refine blk_alloc ?_ _)); exact BK929.out) hb)
    have n2_ := Aside0.mk (blk_below (g := gb930) (o := .cells #[.int .i64 a1_0, .int .i64 a1_1, .int .i64 a1_2, .int .i64 a1_3] 35 (0, 0)) (by (with_reducible repeat (first | refine blk_drewN ?_ _ | refine blk_drew ?_ | refine blk_alloc ?_ _)); exact BK930.out) hb)
    have n3_ := Aside0.mk (below_step (by repeat (first | (with_reducible first | exact HB.out | apply below_alloc | apply pw_below_drewN | apply below_drew1 | refine below_set ?_ GE929.out | refine below_set ?_ GE930.out) | exact HB.out)) hb)
    clear BK929
    clear BK930
    clear HB
    have HO933 := n0_
    have BK929 := n1_
    have BK930 := n2_
    have HB := n3_
    clear n0_ n1_ n2_ n3_
    clear hb ho31
    obtain ⟨Ao32, co32, eo32⟩ := Kd.R_slice HO933.out
    subst eo32
    obtain ⟨ado32, fo32, _⟩ := Kd.at_int (Kd.R_reads' HO933.out).2.2 0 (by decide) (by rw [Ny931.out]; simp)
    cases fo32
    refine hK.out _ _ ⟨(blk_cell BK930.out 0).trans rfl, (blk_cell BK930.out 1).trans rfl, (blk_cell BK930.out 2).trans rfl, (blk_cell BK930.out 3).trans rfl⟩ (fun hHeld => ?_)
    clear hK K
    refine norm_ (a' := ?_) ?_ ?_
    rotate_left
    ·show Act.put _ (some 8) _ = _
     simp only [Act.put, sS_, sZ_, sC_, i64_w, i32_w]
     rfl
    refine pure_ (i := 5) (N := some 11) (v := ?_) (a' := ?_) #[true, true, true, true, true, true, false, false, false] rfl rfl (any_of HT_.out (by kernel_rfl)) (fun _ _ _ h => h) (Or.inl ⟨by rfl, ?_⟩) ?_ ?_
    rotate_left
    ·intro w'
     go_simp
     with_reducible rfl
    rotate_left
    ·simp only [Act.put, sS_, sZ_, sC_, i64_w, i32_w]
     rfl
    refine one_ (i := 6) (N := some 12) #[true, true, true, true, true, true, true, false, false] rfl rfl (one_of HT_.out (by kernel_rfl)) (by decide) (fun K hK => ?_)
    (have p934 : 0 ≤ (a1_0 : Int) := of_decide_eq_true (by first | (with_reducible assumption) | assumption); have q934 : a1_0 < (y931.length : Int) := of_decide_eq_true (by first | (with_reducible assumption) | assumption); obtain ⟨ad934, e934, hx934_0⟩ := Kd.at_int (Kd.R_reads' HO933.out).2.2 a1_0 p934 q934; obtain rfl : ado32 = ad934 := (by injection e934))
    refine value_ (w1 := ?_) (v := ?_) (by rfl) rfl ?_ ?_
    rotate_left 2
    ·go_simp
     constructor
     ·rfl
     ·rfl
    clear hx934_0
    refine hK.out _ _ ⟨(blk_cell BK930.out 0).trans rfl, (blk_cell BK930.out 1).trans rfl, (blk_cell BK930.out 2).trans rfl, (blk_cell BK930.out 3).trans rfl⟩ (fun hHeld => ?_)
    clear hK K
    refine norm_ (a' := ?_) ?_ ?_
    rotate_left
    ·show Act.put _ (some 12) _ = _
     simp only [Act.put, sS_, sZ_, sC_, i64_w, i32_w]
     rfl
    refine pure_ (i := 7) (N := some 13) (v := ?_) (a' := ?_) #[true, true, true, true, true, true, true, true, false] rfl rfl (any_of HT_.out (by kernel_rfl)) (fun _ _ _ h => h) (Or.inl ⟨by rfl, ?_⟩) ?_ ?_
    rotate_left
    ·intro w'
     go_simp
     with_reducible rfl
    rotate_left
    ·simp only [Act.put, sS_, sZ_, sC_, i64_w, i32_w]
     rfl
    refine pure_ (i := 8) (N := some 5) (v := ?_) (a' := ?_) #[true, true, true, true, true, true, true, true, true] rfl rfl (any_of HT_.out (by kernel_rfl)) (fun _ _ _ h => h) (Or.inl ⟨by rfl, ?_⟩) ?_ ?_
    rotate_left
    ·intro w'
     go_simp
     with_reducible rfl
    rotate_left
    ·simp only [Act.put, sS_, sZ_, sC_, i64_w, i32_w]
     rfl
    refine done_ (done_of HT_.out (by kernel_rfl)) ?_
    have hnb33 := NB930_929.out
    have hnc33 := NB929_930.out
    have hcz34_0 : w30.cell? ⟨gb930, 0, none⟩ = some (.int .i64 a1_0) := (blk_cell BK930.out 0).trans rfl
    have hcz34_1 : w30.cell? ⟨gb930, 1, none⟩ = some (.int .i64 a1_1) := (blk_cell BK930.out 1).trans rfl
    have hcz34_2 : w30.cell? ⟨gb930, 2, none⟩ = some (.int .i64 a1_2) := (blk_cell BK930.out 2).trans rfl
    have hcz34_3 : w30.cell? ⟨gb930, 3, none⟩ = some (.int .i64 a1_3) := (blk_cell BK930.out 3).trans rfl
    have hfz34_0 := blk_frozen BK930.out 0
    have hfz34_1 := blk_frozen BK930.out 1
    have hfz34_2 := blk_frozen BK930.out 2
    have hfz34_3 := blk_frozen BK930.out 3
    have hcz35_0 : w30.cell? ⟨gb929, 0, none⟩ = some (.int .i64 a0_0) := (blk_cell BK929.out 0).trans rfl
    have hcz35_1 : w30.cell? ⟨gb929, 1, none⟩ = some (.int .i64 a0_1) := (blk_cell BK929.out 1).trans rfl
    have hcz35_2 : w30.cell? ⟨gb929, 2, none⟩ = some (.slice A0_2 l0_2.length c0_2) := (blk_cell BK929.out 2).trans rfl
    have hfz35_0 := blk_frozen BK929.out 0
    have hfz35_1 := blk_frozen BK929.out 1
    have hfz35_2 := blk_frozen BK929.out 2
    try go_wp2_with (first | ((with_reducible refine gate_callee (f := 146) rfl ?_); refine goesL_ (some 18) rfl rfl Try.func146 (by kernel_rfl) rfl #[.int .i64 a1_1, .int .i64 a0_1] rfl (by (try simp only [List.map_toArray, List.map_cons, List.map_nil]); first | done | rfl | (simp only [List.length_drop, List.length_take]; rfl)) ?_; (with_reducible refine (spec_l22Middle.calls a1_1 a0_1 false _ A5.out).mono ?_); rintro e w' ⟨rfl, ⟨nd, rfl⟩⟩; refine ⟨_, rfl, ?_⟩))
    go_ret
    exact ⟨by first | rfl | (simp [errW_none, errW_some] <;> rfl) | (simp [*, errW_none, errW_some] <;> rfl) | (simp [wrap64]; done), by repeat (first | (with_reducible first | exact HB.out | apply below_alloc | apply pw_below_drewN | apply below_drew1 | refine below_set ?_ GE929.out | refine below_set ?_ GE930.out) | exact HB.out)⟩
  ·rw [if_neg c4] at H
   exact absurd H (by simp)
 ·rw [if_neg c3] at H
  exact absurd H (by simp)

end Go.Proofs.Ytkglpfdoefdhdaa.Q

namespace Go.Proofs.Ytkglpfdoefdhdaa.Q
open Go.RowKit Go.Proofs.YtkglpfdoefdhdaaW.PrintWords Go.Proofs.YtkglpfdoefdhdaaW.PrintLast Go.Proofs.YtkglpfdoefdhdaaW.PrintMore
attribute [local go_sem] max2_int min2_int max_two min_two max_three min_three max_four min_four
set_option linter.unusedVariables false
set_option linter.unusedSimpArgs false

/-! ### spec_l22Points: function 93 -/
def spec_l22Points.l0 : Nat → List (S35) → Int → Int → Int → Int → List Int → Option (Int)
 | 0, _, _, _, _, _, _ => none
 | k + 1, x1, x5, x6, x938000, x938001, x938002 => if x6 < (x1.length : Int) then (if 0 ≤ x6 then ((spec_l22Weight.f x938000 x938001 x938002 ((rd_T35 x1 x6).f0) ((rd_T35 x1 x6).f1) ((rd_T35 x1 x6).f2) ((rd_T35 x1 x6).f3)).bind fun t939 => (spec_l22Points.l0 k x1 (wrap64 (x5 - t939)) (wrap64 (x6 + 1)) x938000 x938001 x938002)) else (none)) else ((spec_l1Most.f 0 x5).bind fun t940 => (some t940))
def spec_l22Points.f (k : Nat) (a0_0 : Int) (a0_1 : Int) (l0_2 : List Int) (l1 : List (S35)) : Option (Int) := spec_l22Points.l0 k l1 100 0 a0_0 a0_1 l0_2
def spec_l22Points.T5 : Bool × List (List Nat × List Nat) := (true, [([], []), ([], []), ([], []), ([], []), ([2, 3], [2, 3]), ([4], [4]), ([1, 5], [1, 5]), ([0, 6], [0, 6]), ([7, 6, 0, 1, 2, 3, 4, 5, 6, 7], [0, 7])])
def spec_l22Points.B5 : List Nat := [0, 0, 0, 0, 12, 28, 62, 127, 255]
theorem spec_l22Points.tab5 : rtab .any (opsOf Try.f93 5) = spec_l22Points.T5 := by kernel_rfl
theorem spec_l22Points.bits5 : waitsOk spec_l22Points.T5.2 spec_l22Points.B5 = true := by kernel_rfl
set_option maxHeartbeats 8000000 in
set_option maxRecDepth 100000 in
theorem spec_l22Points.calls (k : Nat) (a0_0 : Int) (a0_1 : Int) (A0_2 : Option Addr) (c0_2 : Nat) (l0_2 : List Int) (A1 : Option Addr) (c1 : Nat) (l1 : List (S35)) (r : Int) (w : World) (hr0_2 : Kd.C (Kd.int .i64) w A0_2 l0_2.length l0_2) (hc0_2 : l0_2.length ≤ c0_2) (hr1 : Kd.C k35 w A1 l1.length l1) (hc1 : l1.length ≤ c1) (h : spec_l22Points.f k a0_0 a0_1 l0_2 l1 = some r) :
  Calls Try.prog 93 #[.agg #[.int .i64 a0_0, .int .i64 a0_1, .slice A0_2 l0_2.length c0_2], .slice A1 l1.length c1] w fun e w' => e = .returned (.int .i64 r) ∧ Below w.heap.size w w' := by
 have hu26 := Try.underlying26
 have hu35 := Try.underlying35
 have HR0_2 := Aside0.mk hr0_2
 have HC0_2 := Aside0.mk hc0_2
 clear hr0_2 hc0_2
 have HR1 := Aside0.mk hr1
 have HC1 := Aside0.mk hc1
 clear hr1 hc1
 have HB := Aside0.mk (Below.refl w.heap.size w)
 have H : (spec_l22Points.l0 k l1 100 0 a0_0 a0_1 l0_2) = some r := h
 clear h
 have H' := Aside0.mk H
 clear H
 go_enter Try.func93, Try.ntmps93
 go_wp2_with (first | ((with_reducible refine gate_dst (N := 2) rfl ?_); refine box_event ?hg (N := 2) ?hd (cs := #[.int .i64 a0_0, .int .i64 a0_1, .slice A0_2 l0_2.length c0_2]) (t := 26) ?hr ?_; (case hd => rfl); (case hg => rfl); (case hr => first | (go_simp; done) | (go_simp; rfl)); intro gb937 hg w3 hbox hb; have n0_ := Aside0.mk (below_step (by repeat (first | (with_reducible first | exact HB.out | apply below_alloc | apply pw_below_drewN | apply below_drew1) | exact HB.out)) hb); have n1_ := Aside0.mk (hbox); have n2_ := Aside0.mk ((by rw [hg]; exact (below_size (by repeat (first | (with_reducible first | exact HB.out | apply below_alloc | apply pw_below_drewN | apply below_drew1) | exact HB.out))) : w.heap.size ≤ gb937)); have n3_ := Aside0.mk ((by rw [hg]; exact (below_size (by repeat (first | (with_reducible first | exact HB.out | apply below_alloc | apply pw_below_drewN | apply below_drew1) | exact HB.out))) : w.heap.size ≤ gb937)); clear HB; have HB := n0_; have BK937 := n1_; have GW937 := n2_; have GE937 := n3_; clear n0_ n1_ n2_ n3_; clear hb hbox hg))
 go_loopg [5, 6] k (fun kq v5 v6 w' => ∃ (x5_1 : Int) (x6_1 : Int), v5 = .int .i64 x5_1 ∧ v6 = .int .i64 x6_1 ∧ Aside0 (spec_l22Points.l0 kq l1 x5_1 x6_1 a0_0 a0_1 l0_2 = some r) ∧ Aside0 (kq ≤ k) ∧ Aside0 (w'.heap[gb937]? = some (.cells #[.int .i64 a0_0, .int .i64 a0_1, (.slice A0_2 l0_2.length c0_2)] 26 (0, 0))) ∧ Aside0 (Below w.heap.size w w'))
 case atStart => exact ⟨(100), (0), (by first | rfl | (simp; done) | (simp [*]; done)), (by first | rfl | (simp; done) | (simp [*]; done)), H', ⟨Nat.le_refl _⟩, ⟨by (with_reducible repeat (first | refine blk_drewN ?_ _ | refine blk_drew ?_ | refine blk_alloc ?_ _)); exact BK937.out⟩, ⟨by repeat (first | (with_reducible first | exact HB.out | apply below_alloc | apply pw_below_drewN | apply below_drew1 | refine below_set ?_ GE937.out) | exact HB.out)⟩⟩
 case round =>
  clear H'
  try clear c1
  try clear p2
  obtain ⟨x5_1, x6_1, rfl, rfl, HA, HK1, BK937, HB⟩ := hrel
  cases gk with
  | zero => exact absurd HA.out (by simp [spec_l22Points.l0])
  | succ k1 =>
   have H := HA.out
   clear HA
   simp only [spec_l22Points.l0] at H
   by_cases c4 : x6_1 < (l1.length : Int)
   ·rw [if_pos c4] at H
    have c4b0 : decide (x6_1 < (l1.length : Int)) = true := decide_eq_true c4
    clear c4
    by_cases c5 : 0 ≤ x6_1
    ·rw [if_pos c5] at H
     have c5b0 : decide (0 ≤ x6_1) = true := decide_eq_true c5
     clear c5
     replace H := Option.bind_eq_some_iff.mp H
     obtain ⟨t939, A60, H⟩ := H
     have A6 := Aside0.mk A60
     clear A60
     have H' := Aside0.mk H
     clear H
     try go_wp2
     have n0_ := Aside0.mk (blk_drew BK937.out)
     have n1_ := Aside0.mk (below_drew1 HB.out)
     clear BK937
     clear HB
     have BK937 := n0_
     have HB := n1_
     clear n0_ n1_
     have p938 : 0 ≤ (x6_1 : Int) := of_decide_eq_true (by first | (with_reducible assumption) | assumption)
     have q938 : x6_1 < (l1.length : Int) := of_decide_eq_true (by first | (with_reducible assumption) | assumption)
     obtain ⟨ad938, e938, hx938_0, hx938_1, hx938_2, hx938_3⟩ := at_T35 HR1.out x6_1 p938 q938
     have hw938_3 := hx938_3
     have hw938_2 := hx938_2
     have hw938_1 := hx938_1
     have hw938_0 := hx938_0
     cases e938
     replace hx938_0 := (HB.out.cell (World.block_lt_of_cell? w _ hx938_0)).trans hx938_0
     replace hx938_1 := (HB.out.cell (World.block_lt_of_cell? w _ hx938_1)).trans hx938_1
     replace hx938_2 := (HB.out.cell (World.block_lt_of_cell? w _ hx938_2)).trans hx938_2
     replace hx938_3 := (HB.out.cell (World.block_lt_of_cell? w _ hx938_3)).trans hx938_3
     replace p938 := eq_true p938
     replace q938 := eq_true q938
     refine start_ (n := 9) (S := fun w' => w'.cell? ⟨gb937, 0, none⟩ = some (.int .i64 a0_0) ∧ w'.cell? ⟨gb937, 1, none⟩ = some (.int .i64 a0_1) ∧ w'.cell? ⟨gb937, 2, none⟩ = some (.slice A0_2 l0_2.length c0_2) ∧ w'.cell? (ad938.add ((x6_1).toNat * 4)) = some (.int .i64 ((rd_T35 l1 x6_1).f0)) ∧ w'.cell? ⟨(ad938.add ((x6_1).toNat * 4)).block, (ad938.add ((x6_1).toNat * 4)).off + 1, none⟩ = some (.int .i64 ((rd_T35 l1 x6_1).f1)) ∧ w'.cell? ⟨(ad938.add ((x6_1).toNat * 4)).block, (ad938.add ((x6_1).toNat * 4)).off + 2, none⟩ = some (.int .i64 ((rd_T35 l1 x6_1).f2)) ∧ w'.cell? ⟨(ad938.add ((x6_1).toNat * 4)).block, (ad938.add ((x6_1).toNat * 4)).off + 3, none⟩ = some (.int .i64 ((rd_T35 l1 x6_1).f3))) (ds := []) #[false, false, false, false, false, false, false, false, false] (by kernel_rfl) rfl rfl ⟨(blk_cell BK937.out 0).trans rfl, (blk_cell BK937.out 1).trans rfl, (blk_cell BK937.out 2).trans rfl, ((HB.out.cell (World.block_lt_of_cell? w _ hw938_0)).trans hw938_0), ((HB.out.cell (World.block_lt_of_cell? w _ hw938_1)).trans hw938_1), ((HB.out.cell (World.block_lt_of_cell? w _ hw938_2)).trans hw938_2), ((HB.out.cell (World.block_lt_of_cell? w _ hw938_3)).trans hw938_3)⟩ (fun hHeld => ?_); refine with_tabW spec_l22Points.tab5 spec_l22Points.bits5 (fun HT_ HW_ => ?_)
     generalize wr.drew = w7 at BK937 HB hx938_0 hx938_1 hx938_2 hx938_3 hHeld ⊢
     refine pure_ (i := 0) (N := some 13) (v := ?_) (a' := ?_) #[true, false, false, false, false, false, false, false, false] rfl rfl (any_of HT_.out (by kernel_rfl)) (fun _ _ _ h => h) (Or.inl ⟨by rfl, ?_⟩) ?_ ?_
     rotate_left
     ·intro w'
      go_simp
      with_reducible rfl
     rotate_left
     ·simp only [Act.put, sS_, sZ_, sC_, i64_w, i32_w]
      rfl
     refine pure_ (i := 2) (N := some 15) (v := ?_) (a' := ?_) #[true, false, true, false, false, false, false, false, false] rfl rfl (any_of HT_.out (by kernel_rfl)) (fun _ _ _ h => h) (Or.inl ⟨by rfl, ?_⟩) ?_ ?_
     rotate_left
     ·intro w'
      go_simp
      with_reducible rfl
     rotate_left
     ·simp only [Act.put, sS_, sZ_, sC_, i64_w, i32_w]
      rfl
     refine pure_ (i := 3) (N := some 16) (v := ?_) (a' := ?_) #[true, false, true, true, false, false, false, false, false] rfl rfl (any_of HT_.out (by kernel_rfl)) (fun _ _ _ h => h) (Or.inl ⟨by rfl, ?_⟩) ?_ ?_
     rotate_left
     ·intro w'
      go_simp
      with_reducible rfl
     rotate_left
     ·simp only [Act.put, sS_, sZ_, sC_, i64_w, i32_w]
      rfl
     refine pure_ (i := 4) (N := some 17) (v := ?_) (a' := ?_) #[true, false, true, true, true, false, false, false, false] rfl rfl (any_of HT_.out (by kernel_rfl)) (fun _ _ _ h => h) (Or.inl ⟨by rfl, ?_⟩) ?_ ?_
     rotate_left
     ·intro w'
      go_simp
      with_reducible rfl
     rotate_left
     ·simp only [Act.put, sS_, sZ_, sC_, i64_w, i32_w]
      rfl
     refine take_ (i := 1) (N := some 14) (v := ?_) (a' := ?_) #[true, true, true, true, true, false, false, false, false] rfl rfl (take_ofW HT_.out HW_.out (by kernel_rfl)) (fun _ _ _ h => h) (Or.inl ⟨by rfl, ?_⟩) hHeld ?_ ?_
     rotate_left
     ·rintro w' ⟨s0, s1, s2, s3, s4, s5, s6⟩
      go_simp
      with_reducible rfl
     rotate_left
     ·simp only [Act.put, sS_, sZ_, sC_, i64_w, i32_w]
      rfl
     refine take_ (i := 5) (N := some 18) (v := ?_) (a' := ?_) #[true, true, true, true, true, true, false, false, false] rfl rfl (take_ofW HT_.out HW_.out (by kernel_rfl)) (fun _ _ _ h => h) (Or.inl ⟨by rfl, ?_⟩) hHeld ?_ ?_
     rotate_left
     ·rintro w' ⟨s0, s1, s2, s3, s4, s5, s6⟩
      go_simp
      with_reducible rfl
     rotate_left
     ·simp only [Act.put, sS_, sZ_, sC_, i64_w, i32_w]
      rfl
     refine one_ (i := 6) (N := some 19) #[true, true, true, true, true, true, true, false, false] rfl rfl (one_of HT_.out (by kernel_rfl)) (by decide) (fun K hK => ?_)
     refine goes_ Try.func94 (by kernel_rfl) rfl #[.agg #[.int .i64 a0_0, .int .i64 a0_1, .slice A0_2 l0_2.length c0_2], .agg #[.int .i64 ((rd_T35 l1 x6_1).f0), .int .i64 ((rd_T35 l1 x6_1).f1), .int .i64 ((rd_T35 l1 x6_1).f2), .int .i64 ((rd_T35 l1 x6_1).f3)]] (by rfl) rfl rfl (by (try simp only [List.map_toArray, List.map_cons, List.map_nil]); first | done | rfl | (simp only [List.length_drop, List.length_take]; rfl)) ?_
     with_reducible refine (spec_l22Weight.calls a0_0 a0_1 _ _ l0_2 ((rd_T35 l1 x6_1).f0) ((rd_T35 l1 x6_1).f1) ((rd_T35 l1 x6_1).f2) ((rd_T35 l1 x6_1).f3) t939 _ ?side1 ?side2 A6.out).mono ?_
     (case side1 => repeat (first | exact (Kd.C_below HR0_2.out HB.out) | (with_reducible refine Kd.C_alloc ?_ _) | (with_reducible refine Kd.C_drewN ?_ _) | (with_reducible refine Kd.C_drew ?_)))
     (case side2 => exact HC0_2.out)
     rintro e w8 ⟨rfl, hb⟩
     refine ⟨_, rfl, ?_⟩
     have n0_ := Aside0.mk (blk_below (g := gb937) (o := .cells #[.int .i64 a0_0, .int .i64 a0_1, .slice A0_2 l0_2.length c0_2] 26 (0, 0)) (by (with_reducible repeat (first | refine blk_drewN ?_ _ | refine blk_drew ?_ | refine blk_alloc ?_ _)); exact BK937.out) hb)
     have n1_ := Aside0.mk (below_step (by repeat (first | (with_reducible first | exact HB.out | apply below_alloc | apply pw_below_drewN | apply below_drew1 | refine below_set ?_ GE937.out) | exact HB.out)) hb)
     clear BK937
     clear HB
     have BK937 := n0_
     have HB := n1_
     clear n0_ n1_
     (try clear hb)
     (try clear hb2)
     (try clear hk)
     (try clear hi)
     refine hK.out _ _ ⟨(blk_cell BK937.out 0).trans rfl, (blk_cell BK937.out 1).trans rfl, (blk_cell BK937.out 2).trans rfl, ((HB.out.cell (World.block_lt_of_cell? w _ hw938_0)).trans hw938_0), ((HB.out.cell (World.block_lt_of_cell? w _ hw938_1)).trans hw938_1), ((HB.out.cell (World.block_lt_of_cell? w _ hw938_2)).trans hw938_2), ((HB.out.cell (World.block_lt_of_cell? w _ hw938_3)).trans hw938_3)⟩ (fun hHeld => ?_)
     clear hK K
     refine norm_ (a' := ?_) ?_ ?_
     rotate_left
     ·show Act.put _ (some 19) _ = _
      simp only [Act.put, sS_, sZ_, sC_, i64_w, i32_w]
      rfl
     refine pure_ (i := 7) (N := some 20) (v := ?_) (a' := ?_) #[true, true, true, true, true, true, true, true, false] rfl rfl (any_of HT_.out (by kernel_rfl)) (fun _ _ _ h => h) (Or.inl ⟨by rfl, ?_⟩) ?_ ?_
     rotate_left
     ·intro w'
      go_simp
      with_reducible rfl
     rotate_left
     ·simp only [Act.put, sS_, sZ_, sC_, i64_w, i32_w]
      rfl
     refine pure_ (i := 8) (N := some 5) (v := ?_) (a' := ?_) #[true, true, true, true, true, true, true, true, true] rfl rfl (any_of HT_.out (by kernel_rfl)) (fun _ _ _ h => h) (Or.inl ⟨by rfl, ?_⟩) ?_ ?_
     rotate_left
     ·intro w'
      go_simp
      with_reducible rfl
     rotate_left
     ·simp only [Act.put, sS_, sZ_, sC_, i64_w, i32_w]
      rfl
     refine done_ (done_of HT_.out (by kernel_rfl)) ?_
     try go_wp2
     go_roundg k1
     case measure => have := HK1.out; omega
     case rel => exact ⟨(wrap64 (x5_1 - t939)), (wrap64 (x6_1 + 1)), (by first | rfl | (simp; done) | (simp [*]; done)), (by first | rfl | (simp; done) | (simp [*]; done)), H', ⟨by have := HK1.out; omega⟩, ⟨by (with_reducible repeat (first | refine blk_drewN ?_ _ | refine blk_drew ?_ | refine blk_alloc ?_ _)); exact BK937.out⟩, ⟨by repeat (first | (with_reducible first | exact HB.out | apply below_alloc | apply pw_below_drewN | apply below_drew1 | refine below_set ?_ GE937.out) | exact HB.out)⟩⟩
    ·rw [if_neg c5] at H
     exact absurd H (by simp)
   ·rw [if_neg c4] at H
    have c4b0 : decide (x6_1 < (l1.length : Int)) = false := decide_eq_false c4
    clear c4
    replace H := Option.bind_eq_some_iff.mp H
    obtain ⟨t940, A90, H⟩ := H
    have A9 := Aside0.mk A90
    clear A90
    obtain rfl := Option.some.inj H
    go_wp2_with (first | ((with_reducible refine gate_callee (f := 145) rfl ?_); refine goesL_ (some 22) rfl rfl Try.func145 (by kernel_rfl) rfl #[.int .i64 0, .int .i64 x5_1] rfl (by (try simp only [List.map_toArray, List.map_cons, List.map_nil]); first | done | rfl | (simp only [List.length_drop, List.length_take]; rfl)) ?_; (with_reducible refine (spec_l1Most.calls 0 x5_1 t940 _ A9.out).mono ?_); rintro e w' ⟨rfl, ⟨nd, rfl⟩⟩; refine ⟨_, rfl, ?_⟩))
    go_ret
    exact ⟨by first | rfl | (simp [errW_none, errW_some] <;> rfl) | (simp [*, errW_none, errW_some] <;> rfl) | (simp [wrap64]; done), by repeat (first | (with_reducible first | exact HB.out | apply below_alloc | apply pw_below_drewN | apply below_drew1 | refine below_set ?_ GE937.out) | exact HB.out)⟩

end Go.Proofs.Ytkglpfdoefdhdaa.Q

namespace Go.Proofs.Ytkglpfdoefdhdaa.WK
open Go Go.RowKit Go.Proofs.Ytkglpfdoefdhdaa.Q Go.Proofs.Ytkglpfdoefdhdaa.M Go.Proofs.YtkglpfdoefdhdaaW.PrintWords Go.Proofs.YtkglpfdoefdhdaaW.SL
open Go.Proofs.YtkglpfdoefdhdaaW.Pl (nth nth_get nth_mem w64)
set_option linter.unusedSimpArgs false
set_option linter.unusedVariables false
set_option maxRecDepth 100000
namespace FW
open MO (mixed sc3 agg26 zero3)
open IF (enc agg35 el27)
theorem sz146 : SzT Try.prog 146 5 := ⟨by kernel_rfl⟩
theorem fld35_0 : FldT Try.prog 35 0 0 := ⟨by kernel_rfl⟩
theorem fld35_1 : FldT Try.prog 35 1 1 := ⟨by kernel_rfl⟩
theorem fld35_2 : FldT Try.prog 35 2 2 := ⟨by kernel_rfl⟩
theorem fld35_3 : FldT Try.prog 35 3 3 := ⟨by kernel_rfl⟩
theorem fld26_0 : FldT Try.prog 26 0 0 := ⟨by kernel_rfl⟩
theorem fld26_1 : FldT Try.prog 26 1 1 := ⟨by kernel_rfl⟩
theorem zero146 : ZeroT Try.prog 146 [.int .i64 0, .int .i64 0, .int .i64 0, .int .i64 0, .int .i64 0] := ⟨by kernel_rfl⟩
theorem en141 : Ent Try.prog 141 := ⟨enters_of Try.func141 (by kernel_rfl) rfl⟩
theorem en86 : Ent Try.prog 86 := ⟨enters_of Try.func86 (by kernel_rfl) rfl⟩
structure ArT (P : Program) (T e n m : Nat) : Prop where
  und : P.underlying T = some (.array n e)
  inf : (P.info? e).map (·.size) = some m
theorem run_indexArr {P : Program} {w : World} {T e n m : Nat} {ad : Addr} {k : IntKind} {i : Int} (h : ArT P T e n m) (h0 : 0 ≤ i) (h1 : i < (n : Int)) : (Instr.indexAt T (.pointer (some ad)) (.int k i)).run P w = .ok (.pointer (some (ad.add (i.toNat * m)))) w := by
  obtain ⟨j, hj, rfl⟩ := Option.map_eq_some_iff.1 h.inf
  simp [Instr.indexAt, run_underlying h.und, asIntOf, Instr.sureAddr, h0, h1, sizeOf, typeInfo, hj]
section
variable {P : Program} {N : Nat} {B : Base} {L : Sl} {its : List Go.Proofs.YtkglpfdoefdhdaaW.SL.Item} {ps : List (World → Prop)} {o : Oper} {T n m e g : Nat} {x y : Operand} {v : Value}
namespace Y
theorem idxA {k : IntKind} {i : Int} (hop : o.op = .indexAddr T x y) (hx : ev L x = some (.pointer (some ⟨g, 0, none⟩))) (hy : ev L y = some (.int k i)) (hT : ArT P T e n m) (h0 : 0 ≤ i) (h1 : i < (n : Int)) : Yd P N B o (.pointer (some ⟨g, i.toNat * m, none⟩)) L its ps := .mk <| fun a w hf hW => by
  have e : (⟨g, 0, none⟩ : Addr).add (i.toNat * m) = ⟨g, i.toNat * m, none⟩ := by unfold Addr.add; split <;> simp_all
  have := run_indexArr (w := w) (ad := ⟨g, 0, none⟩) (k := k) hT h0 h1
  rw [e] at this
  unfold execOp; rw [hop]; simp [hf.ev hx, hf.ev hy, this]
end Y
end
theorem art146 : ArT Try.prog 146 3 5 1 := ⟨Try.underlying146, by kernel_rfl⟩
theorem build5 {P : Program} {N : Nat} {B : Base} {L : Sl} {its : List Go.Proofs.YtkglpfdoefdhdaaW.SL.Item} {ps : List (World → Prop)} {o : Oper} {T : TypeId} {a b c d e : Operand} {u1 u2 u3 u4 u5 : Value} {us : List Value} (hop : o.op = .build T #[(0, a), (1, b), (2, c), (3, d), (4, e)]) (h1 : ev L a = some u1) (h2 : ev L b = some u2) (h3 : ev L c = some u3) (h4 : ev L d = some u4) (h5 : ev L e = some u5) (hr : ∀ w, (Instr.build T #[(0, u1), (1, u2), (2, u3), (3, u4), (4, u5)]).run P w = .ok (.agg us.toArray) w) : Yd P N B o (.agg us.toArray) L its ps := .mk <| fun a w hf hW => by
  unfold execOp; rw [hop]; simp [hf.ev h1, hf.ev h2, hf.ev h3, hf.ev h4, hf.ev h5, hr w]
theorem bld146 (w : World) : (Instr.build 146 #[(0, .int .i64 1), (1, .int .i64 2), (2, .int .i64 3), (3, .int .i64 5), (4, .int .i64 2)]).run Try.prog w = .ok (.agg ([.int .i64 1, .int .i64 2, .int .i64 3, .int .i64 5, .int .i64 2] : List Value).toArray) w := by kernel_rfl
/-- In the middle of a side? -/
def midB (n s : Int) : Bool := decide (Int.tdiv s 4 ≤ n ∧ n < s - Int.tdiv s 4)
theorem tdiv_b {s : Int} (h : 1 ≤ s ∧ s ≤ 8) : 0 ≤ Int.tdiv s 4 ∧ Int.tdiv s 4 ≤ 2 := by
  rw [Int.tdiv_eq_ediv_of_nonneg (by omega)]
  omega
theorem iMid {n s : Int} (h : 1 ≤ s ∧ s ≤ 8) : impl_isMiddle.f n s = some (midB n s) := by
  have hb := tdiv_b h
  unfold impl_isMiddle.f midB
  rw [w64 (x := Int.tdiv s 4) (by omega), w64 (by omega)]
  by_cases h1 : n ≥ Int.tdiv s 4
  · rw [if_pos h1]
    congr 1
    rw [decide_eq_decide]
    omega
  · rw [if_neg h1, decide_eq_false (by omega)]
theorem sMid {n s : Int} (h : 1 ≤ s ∧ s ≤ 8) : spec_l22Middle.f n s = some (midB n s) := iMid h
theorem midC {n s : Int} {b : Bool} (h : (1 ≤ s ∧ s ≤ 8) ∧ midB n s = b) (w : World) : Calls Try.prog 141 #[.int .i64 n, .int .i64 s] w fun e w' => e = .returned (.bool b) ∧ Below w.heap.size w w' :=
  (impl_isMiddle.calls n s b w (h.2 ▸ iMid h.1)).mono (fun _ _ hh => ⟨hh.1, hh.2.below⟩)
def facL : List Int := [1, 2, 3, 5, 2]
def facF (k : Int) : Int := facL.getD k.toNat 0
theorem facF_b {k : Int} (h : 0 ≤ k ∧ k ≤ 4) : 1 ≤ facF k ∧ facF k ≤ 5 := by
  rcases (by omega : k = 0 ∨ k = 1 ∨ k = 2 ∨ k = 3 ∨ k = 4) with rfl | rfl | rfl | rfl | rfl <;> decide
/-- The weight of a flaw. -/
def baseF (x : S35) : Int := facF x.f0 * x.f3
def wtF (wd ht : Int) (x : S35) : Int := if midB x.f1 ht = true ∧ midB x.f2 wd = true then 2 * baseF x else baseF x
theorem base_b {wd ht : Int} {x : S35} (hx : okF wd ht x = true) : 1 ≤ baseF x ∧ baseF x ≤ 45 := by
  unfold okF at hx
  rw [decide_eq_true_iff] at hx
  have h1 := facF_b hx.1
  unfold baseF
  have h2 : 1 * 1 ≤ facF x.f0 * x.f3 := Int.mul_le_mul h1.1 hx.2.2.2.1 (by omega) (by omega)
  have h3 : facF x.f0 * x.f3 ≤ 5 * 9 := Int.mul_le_mul h1.2 hx.2.2.2.2 (by omega) (by omega)
  omega
theorem wt_b {wd ht : Int} {x : S35} (hx : okF wd ht x = true) : 1 ≤ wtF wd ht x ∧ wtF wd ht x ≤ 90 := by
  have := base_b hx
  unfold wtF
  split <;> omega
set_option maxHeartbeats 8000000 in
/-- The program's weight of a flaw. -/
theorem fw {wd ht : Int} {cs : List Int} {x : S35} (hg : goodC wd ht cs = true) (hx : okF wd ht x = true) (A0 : Option Addr) (c0 : Nat) (w : World) (hr : Kd.C (Kd.int .i64) w A0 cs.length cs) (hc : cs.length ≤ c0) : Calls Try.prog 86 #[.agg #[.int .i64 wd, .int .i64 ht, .slice A0 cs.length c0], .agg #[.int .i64 x.f0, .int .i64 x.f1, .int .i64 x.f2, .int .i64 x.f3]] w fun e w' => e = .returned (.int .i64 (wtF wd ht x)) ∧ Below w.heap.size w w' := by
  obtain ⟨g1, g2, _⟩ := goodC_at hg
  have hb := base_b hx
  have hx' := hx
  unfold okF at hx'
  rw [decide_eq_true_iff] at hx'
  have hk5 : ([.int .i64 1, .int .i64 2, .int .i64 3, .int .i64 5, .int .i64 2] : List Value)[x.f0.toNat * 1]? = some (.int .i64 (facF x.f0)) := by
    rcases (by omega : x.f0 = 0 ∨ x.f0 = 1 ∨ x.f0 = 2 ∨ x.f0 = 3 ∨ x.f0 = 4) with e | e | e | e | e <;> rw [e] <;> rfl
  have hbe : baseF x = facF x.f0 * x.f3 := rfl
  let Rr : Ending → World → Prop := fun e w' => e = .returned (.int .i64 (wtF wd ht x)) ∧ Below w.heap.size w w'
  refine enterW (args := [.agg #[.int .i64 wd, .int .i64 ht, .slice A0 cs.length c0], .agg #[.int .i64 x.f0, .int .i64 x.f1, .int .i64 x.f2, .int .i64 x.f3]]) [(fun W => Kd.C (Kd.int .i64) W A0 cs.length cs)] (fun p hp W hb => by rw [List.mem_singleton.1 hp]; exact Kd.C_below hr hb) Try.func86 rfl rfl ?_
  show Cj Try.prog _ _ _ (bodyPost Try.prog Try.f86 Rr) _ _ _
  cases hm1 : midB x.f1 ht with
  | true =>
    have h1 := And.intro g2 hm1
    cases hm2 : midB x.f2 wd with
    | true =>
      have h2 := And.intro g1 hm2
      have hE : wtF wd ht x = 2 * (facF x.f0 * x.f3) := by unfold wtF; rw [if_pos ⟨hm1, hm2⟩, hbe]
      repeat (first
          | (apply gateO; first
            | refine Jl.yd (Y.mv rfl rfl) rfl rfl rfl ?_
            | refine Jl.yd (Y.asg rfl rfl) rfl rfl rfl ?_
            | refine Jl.yd (Y.ext rfl rfl rfl) rfl rfl rfl ?_
            | refine Jl.yd (Y.pickT rfl rfl rfl) rfl rfl rfl ?_
            | refine Jl.yd (Y.pickF rfl rfl rfl) rfl rfl rfl ?_
            | refine Jl.off rfl rfl rfl ?_
            | refine Jl.yd (Y.cmpF rfl rfl rfl rfl (by omega)) rfl rfl rfl ?_
            | refine Jl.yd (Y.cmpT rfl rfl rfl rfl (by omega)) rfl rfl rfl ?_
            | refine Jl.yd (Y.neqB rfl rfl rfl Try.underlying4) rfl rfl rfl ?_
            | refine Jl.yd (Y.cmp rfl rfl rfl rfl) rfl rfl rfl ?_
            | refine Jl.yd (Y.not rfl rfl) rfl rfl rfl ?_
            | refine Jl.yd (Y.arithN rfl rfl rfl rfl (by omega)) rfl rfl rfl ?_
            | refine Jl.yd (Y.arith64 rfl rfl rfl rfl) rfl rfl rfl ?_
            | refine Jl.yd (Y.loadA rfl rfl agg26 (by repeat (first | exact .head _ | refine .tail _ ?_)) (by rfl)) rfl rfl rfl ?_
            | refine Jl.yd (Y.loadA rfl rfl agg35 (by repeat (first | exact .head _ | refine .tail _ ?_)) (by rfl)) rfl rfl rfl ?_
            | refine Jl.box (zs := [.int .i64 wd, .int .i64 ht, .slice A0 cs.length c0]) rfl rfl rfl rfl rfl (by rfl) (fun gc => ?_)
            | refine Jl.box (zs := [.int .i64 x.f0, .int .i64 x.f1, .int .i64 x.f2, .int .i64 x.f3]) rfl rfl rfl rfl rfl (by rfl) (fun gx => ?_)
            | refine Jl.yd (build5 rfl rfl rfl rfl rfl rfl bld146) rfl rfl rfl ?_
            | refine Jl.alloc rfl rfl rfl rfl zero146 (fun ga => ?_)
            | refine Jl.storeA rfl rfl rfl rfl rfl sz146 (by repeat (first | exact .z | apply SetAt.s)) (by rfl) (by rfl) ?_
            | refine Jl.yd (Y.fld0 rfl rfl fld35_0) rfl rfl rfl ?_
            | refine Jl.yd (Y.fld0 rfl rfl fld35_1) rfl rfl rfl ?_
            | refine Jl.yd (Y.fld0 rfl rfl fld35_2) rfl rfl rfl ?_
            | refine Jl.yd (Y.fld0 rfl rfl fld35_3) rfl rfl rfl ?_
            | refine Jl.yd (Y.fld0 rfl rfl fld26_0) rfl rfl rfl ?_
            | refine Jl.yd (Y.fld0 rfl rfl fld26_1) rfl rfl rfl ?_
            | refine Jl.yd (Y.load1 rfl rfl sc3 (by repeat (first | exact .head _ | refine .tail _ ?_)) (by rfl)) rfl rfl rfl ?_
            | refine Jl.yd (Y.load1 rfl rfl sc3 (by repeat (first | exact .head _ | refine .tail _ ?_)) hk5) rfl rfl rfl ?_
            | refine Jl.yd (Y.idxA rfl rfl rfl art146 (by omega) (by omega)) rfl rfl rfl ?_
            | refine Jl.call1 (v := .bool true) rfl rfl rfl rfl en141 rfl (fun w hW => by with_reducible exact midC h1 w) ?_
            | refine Jl.call1 (v := .bool true) rfl rfl rfl rfl en141 rfl (fun w hW => by with_reducible exact midC h2 w) ?_
            | refine Jl.splitG rfl rfl (fun h => ?_) (fun h => ?_))
          | (apply gateE; first
            | refine Jl.nil (Ej.go ?_ (fun _ _ h => h))
            | (refine Jl.nil (Ej.back (fun _ _ h => h) (by repeat (first | exact .refl | apply DropTo.tail)) ?_); repeat (first | exact trivial | refine ⟨rfl, ?_⟩)))
          | (apply gateC; first
            | refine Cj.block rfl ?_
            | refine Cj.regionD rfl (mkD [0, 1, 2, 3, 4, 5, 6, 7] []) [] [0, 1, 2, 3, 4, 5, 6, 7] mixed (by decide +kernel) ?_
            | refine Cj.ret rfl (Ej.out1 (P := Try.prog) (fn := Try.f86) (R := Rr) (fun _ _ h => h) rfl rfl (fun w' hW => ⟨by rw [hE], hW.below⟩))
            | refine Cj.condF rfl rfl (Cj.skip rfl (Ej.go ?_ (fun _ _ h => h)))
            | (refine Cj.condF rfl rfl (Cj.skip rfl (Ej.back (fun _ _ h => h) (by repeat (first | exact .refl | apply DropTo.tail)) ?_)); repeat (first | exact trivial | refine ⟨rfl, ?_⟩))
            | refine Cj.condF rfl rfl ?_
            | refine Cj.condT rfl rfl ?_
            | refine Cj.exit rfl (Ej.go ?_ (fun _ _ h => h))
            | refine Cj.cond rfl rfl (fun h => ?_) (fun h => ?_)
            | refine Cj.skip rfl (Ej.go ?_ (fun _ _ h => h))
            | (refine Cj.skip rfl (Ej.back (fun _ _ h => h) (by repeat (first | exact .refl | apply DropTo.tail)) ?_); repeat (first | exact trivial | refine ⟨rfl, ?_⟩))
            | refine Cj.seq rfl ?_
            | refine Cj.region rfl ?_))
    | false =>
      have h2 := And.intro g1 hm2
      have hE : wtF wd ht x = facF x.f0 * x.f3 := by unfold wtF; rw [if_neg (fun h => by rw [hm2] at h; cases h.2), hbe]
      repeat (first
          | (apply gateO; first
            | refine Jl.yd (Y.mv rfl rfl) rfl rfl rfl ?_
            | refine Jl.yd (Y.asg rfl rfl) rfl rfl rfl ?_
            | refine Jl.yd (Y.ext rfl rfl rfl) rfl rfl rfl ?_
            | refine Jl.yd (Y.pickT rfl rfl rfl) rfl rfl rfl ?_
            | refine Jl.yd (Y.pickF rfl rfl rfl) rfl rfl rfl ?_
            | refine Jl.off rfl rfl rfl ?_
            | refine Jl.yd (Y.cmpF rfl rfl rfl rfl (by omega)) rfl rfl rfl ?_
            | refine Jl.yd (Y.cmpT rfl rfl rfl rfl (by omega)) rfl rfl rfl ?_
            | refine Jl.yd (Y.neqB rfl rfl rfl Try.underlying4) rfl rfl rfl ?_
            | refine Jl.yd (Y.cmp rfl rfl rfl rfl) rfl rfl rfl ?_
            | refine Jl.yd (Y.not rfl rfl) rfl rfl rfl ?_
            | refine Jl.yd (Y.arithN rfl rfl rfl rfl (by omega)) rfl rfl rfl ?_
            | refine Jl.yd (Y.arith64 rfl rfl rfl rfl) rfl rfl rfl ?_
            | refine Jl.yd (Y.loadA rfl rfl agg26 (by repeat (first | exact .head _ | refine .tail _ ?_)) (by rfl)) rfl rfl rfl ?_
            | refine Jl.yd (Y.loadA rfl rfl agg35 (by repeat (first | exact .head _ | refine .tail _ ?_)) (by rfl)) rfl rfl rfl ?_
            | refine Jl.box (zs := [.int .i64 wd, .int .i64 ht, .slice A0 cs.length c0]) rfl rfl rfl rfl rfl (by rfl) (fun gc => ?_)
            | refine Jl.box (zs := [.int .i64 x.f0, .int .i64 x.f1, .int .i64 x.f2, .int .i64 x.f3]) rfl rfl rfl rfl rfl (by rfl) (fun gx => ?_)
            | refine Jl.yd (build5 rfl rfl rfl rfl rfl rfl bld146) rfl rfl rfl ?_
            | refine Jl.alloc rfl rfl rfl rfl zero146 (fun ga => ?_)
            | refine Jl.storeA rfl rfl rfl rfl rfl sz146 (by repeat (first | exact .z | apply SetAt.s)) (by rfl) (by rfl) ?_
            | refine Jl.yd (Y.fld0 rfl rfl fld35_0) rfl rfl rfl ?_
            | refine Jl.yd (Y.fld0 rfl rfl fld35_1) rfl rfl rfl ?_
            | refine Jl.yd (Y.fld0 rfl rfl fld35_2) rfl rfl rfl ?_
            | refine Jl.yd (Y.fld0 rfl rfl fld35_3) rfl rfl rfl ?_
            | refine Jl.yd (Y.fld0 rfl rfl fld26_0) rfl rfl rfl ?_
            | refine Jl.yd (Y.fld0 rfl rfl fld26_1) rfl rfl rfl ?_
            | refine Jl.yd (Y.load1 rfl rfl sc3 (by repeat (first | exact .head _ | refine .tail _ ?_)) (by rfl)) rfl rfl rfl ?_
            | refine Jl.yd (Y.load1 rfl rfl sc3 (by repeat (first | exact .head _ | refine .tail _ ?_)) hk5) rfl rfl rfl ?_
            | refine Jl.yd (Y.idxA rfl rfl rfl art146 (by omega) (by omega)) rfl rfl rfl ?_
            | refine Jl.call1 (v := .bool true) rfl rfl rfl rfl en141 rfl (fun w hW => by with_reducible exact midC h1 w) ?_
            | refine Jl.call1 (v := .bool false) rfl rfl rfl rfl en141 rfl (fun w hW => by with_reducible exact midC h2 w) ?_
            | refine Jl.splitG rfl rfl (fun h => ?_) (fun h => ?_))
          | (apply gateE; first
            | refine Jl.nil (Ej.go ?_ (fun _ _ h => h))
            | (refine Jl.nil (Ej.back (fun _ _ h => h) (by repeat (first | exact .refl | apply DropTo.tail)) ?_); repeat (first | exact trivial | refine ⟨rfl, ?_⟩)))
          | (apply gateC; first
            | refine Cj.block rfl ?_
            | refine Cj.regionD rfl (mkD [0, 1, 2, 3, 4, 5, 6, 7] []) [] [0, 1, 2, 3, 4, 5, 6, 7] mixed (by decide +kernel) ?_
            | refine Cj.ret rfl (Ej.out1 (P := Try.prog) (fn := Try.f86) (R := Rr) (fun _ _ h => h) rfl rfl (fun w' hW => ⟨by rw [hE], hW.below⟩))
            | refine Cj.condF rfl rfl (Cj.skip rfl (Ej.go ?_ (fun _ _ h => h)))
            | (refine Cj.condF rfl rfl (Cj.skip rfl (Ej.back (fun _ _ h => h) (by repeat (first | exact .refl | apply DropTo.tail)) ?_)); repeat (first | exact trivial | refine ⟨rfl, ?_⟩))
            | refine Cj.condF rfl rfl ?_
            | refine Cj.condT rfl rfl ?_
            | refine Cj.exit rfl (Ej.go ?_ (fun _ _ h => h))
            | refine Cj.cond rfl rfl (fun h => ?_) (fun h => ?_)
            | refine Cj.skip rfl (Ej.go ?_ (fun _ _ h => h))
            | (refine Cj.skip rfl (Ej.back (fun _ _ h => h) (by repeat (first | exact .refl | apply DropTo.tail)) ?_); repeat (first | exact trivial | refine ⟨rfl, ?_⟩))
            | refine Cj.seq rfl ?_
            | refine Cj.region rfl ?_))
  | false =>
    have h1 := And.intro g2 hm1
    have hE : wtF wd ht x = facF x.f0 * x.f3 := by unfold wtF; rw [if_neg (fun h => by rw [hm1] at h; cases h.1), hbe]
    repeat (first
        | (apply gateO; first
          | refine Jl.yd (Y.mv rfl rfl) rfl rfl rfl ?_
          | refine Jl.yd (Y.asg rfl rfl) rfl rfl rfl ?_
          | refine Jl.yd (Y.ext rfl rfl rfl) rfl rfl rfl ?_
          | refine Jl.yd (Y.pickT rfl rfl rfl) rfl rfl rfl ?_
          | refine Jl.yd (Y.pickF rfl rfl rfl) rfl rfl rfl ?_
          | refine Jl.off rfl rfl rfl ?_
          | refine Jl.yd (Y.cmpF rfl rfl rfl rfl (by omega)) rfl rfl rfl ?_
          | refine Jl.yd (Y.cmpT rfl rfl rfl rfl (by omega)) rfl rfl rfl ?_
          | refine Jl.yd (Y.neqB rfl rfl rfl Try.underlying4) rfl rfl rfl ?_
          | refine Jl.yd (Y.cmp rfl rfl rfl rfl) rfl rfl rfl ?_
          | refine Jl.yd (Y.not rfl rfl) rfl rfl rfl ?_
          | refine Jl.yd (Y.arithN rfl rfl rfl rfl (by omega)) rfl rfl rfl ?_
          | refine Jl.yd (Y.arith64 rfl rfl rfl rfl) rfl rfl rfl ?_
          | refine Jl.yd (Y.loadA rfl rfl agg26 (by repeat (first | exact .head _ | refine .tail _ ?_)) (by rfl)) rfl rfl rfl ?_
          | refine Jl.yd (Y.loadA rfl rfl agg35 (by repeat (first | exact .head _ | refine .tail _ ?_)) (by rfl)) rfl rfl rfl ?_
          | refine Jl.box (zs := [.int .i64 wd, .int .i64 ht, .slice A0 cs.length c0]) rfl rfl rfl rfl rfl (by rfl) (fun gc => ?_)
          | refine Jl.box (zs := [.int .i64 x.f0, .int .i64 x.f1, .int .i64 x.f2, .int .i64 x.f3]) rfl rfl rfl rfl rfl (by rfl) (fun gx => ?_)
          | refine Jl.yd (build5 rfl rfl rfl rfl rfl rfl bld146) rfl rfl rfl ?_
          | refine Jl.alloc rfl rfl rfl rfl zero146 (fun ga => ?_)
          | refine Jl.storeA rfl rfl rfl rfl rfl sz146 (by repeat (first | exact .z | apply SetAt.s)) (by rfl) (by rfl) ?_
          | refine Jl.yd (Y.fld0 rfl rfl fld35_0) rfl rfl rfl ?_
          | refine Jl.yd (Y.fld0 rfl rfl fld35_1) rfl rfl rfl ?_
          | refine Jl.yd (Y.fld0 rfl rfl fld35_2) rfl rfl rfl ?_
          | refine Jl.yd (Y.fld0 rfl rfl fld35_3) rfl rfl rfl ?_
          | refine Jl.yd (Y.fld0 rfl rfl fld26_0) rfl rfl rfl ?_
          | refine Jl.yd (Y.fld0 rfl rfl fld26_1) rfl rfl rfl ?_
          | refine Jl.yd (Y.load1 rfl rfl sc3 (by repeat (first | exact .head _ | refine .tail _ ?_)) (by rfl)) rfl rfl rfl ?_
          | refine Jl.yd (Y.load1 rfl rfl sc3 (by repeat (first | exact .head _ | refine .tail _ ?_)) hk5) rfl rfl rfl ?_
          | refine Jl.yd (Y.idxA rfl rfl rfl art146 (by omega) (by omega)) rfl rfl rfl ?_
          | refine Jl.call1 (v := .bool false) rfl rfl rfl rfl en141 rfl (fun w hW => by with_reducible exact midC h1 w) ?_
          | refine Jl.call1 (v := .bool false) rfl rfl rfl rfl en141 rfl (fun w hW => by with_reducible exact midC h2 w) ?_
          | refine Jl.splitG rfl rfl (fun h => ?_) (fun h => ?_))
        | (apply gateE; first
          | refine Jl.nil (Ej.go ?_ (fun _ _ h => h))
          | (refine Jl.nil (Ej.back (fun _ _ h => h) (by repeat (first | exact .refl | apply DropTo.tail)) ?_); repeat (first | exact trivial | refine ⟨rfl, ?_⟩)))
        | (apply gateC; first
          | refine Cj.block rfl ?_
          | refine Cj.regionD rfl (mkD [0, 1, 2, 3, 4, 5, 6, 7] []) [] [0, 1, 2, 3, 4, 5, 6, 7] mixed (by decide +kernel) ?_
          | refine Cj.ret rfl (Ej.out1 (P := Try.prog) (fn := Try.f86) (R := Rr) (fun _ _ h => h) rfl rfl (fun w' hW => ⟨by rw [hE], hW.below⟩))
          | refine Cj.condF rfl rfl (Cj.skip rfl (Ej.go ?_ (fun _ _ h => h)))
          | (refine Cj.condF rfl rfl (Cj.skip rfl (Ej.back (fun _ _ h => h) (by repeat (first | exact .refl | apply DropTo.tail)) ?_)); repeat (first | exact trivial | refine ⟨rfl, ?_⟩))
          | refine Cj.condF rfl rfl ?_
          | refine Cj.condT rfl rfl ?_
          | refine Cj.exit rfl (Ej.go ?_ (fun _ _ h => h))
          | refine Cj.cond rfl rfl (fun h => ?_) (fun h => ?_)
          | refine Cj.skip rfl (Ej.go ?_ (fun _ _ h => h))
          | (refine Cj.skip rfl (Ej.back (fun _ _ h => h) (by repeat (first | exact .refl | apply DropTo.tail)) ?_); repeat (first | exact trivial | refine ⟨rfl, ?_⟩))
          | refine Cj.seq rfl ?_
          | refine Cj.region rfl ?_))
end FW
end Go.Proofs.Ytkglpfdoefdhdaa.WK

namespace Go.Proofs.Ytkglpfdoefdhdaa.WK
open Go Go.RowKit Go.Proofs.Ytkglpfdoefdhdaa.Q Go.Proofs.Ytkglpfdoefdhdaa.M Go.Proofs.YtkglpfdoefdhdaaW.PrintWords Go.Proofs.YtkglpfdoefdhdaaW.SL
open Go.Proofs.YtkglpfdoefdhdaaW.Pl (nth nth_get nth_mem)
set_option linter.unusedSimpArgs false
set_option linter.unusedVariables false
set_option maxRecDepth 100000
namespace PU
open MO (mixed sc3 zero3 el24 ap24)
theorem outI {w0 w : World} {v : Value} {xs : List Int} {its : List Go.Proofs.YtkglpfdoefdhdaaW.SL.Item} {ps : List (World → Prop)} (h : WS (base w0) w (.row KI 3 0 v xs :: its) ps) : (Kd.int .i64).R 3 w w0.heap.size (fun _ => True) v xs := by
  obtain ⟨h1, S, ⟨Aa, C1, g1, g2, g3, g4⟩, h3, h4⟩ := h
  have hown : ∀ k, v.ownBlock = some k → w0.heap.size ≤ k := fun k hk => (h3 k ((g3 k).2 (.inl (g1.1.1 k hk)))).resolve_left (fun h => h)
  exact Kd.R_mono (Kd.R_raise (b := 0) (fun _ _ _ _ h => h) g1.1 hown) (fun _ _ => trivial)
namespace Put
theorem app_eq (l : List Int) (p : Nat) (n : Int) : (([] ++ l.take p) ++ [n]) ++ l.drop p = l.take p ++ n :: l.drop p := by simp
set_option maxHeartbeats 4000000 in
theorem calls (A0 : Option Addr) (c0 : Nat) (l : List Int) (n : Int) (p : Nat) (w : World) (hr0 : Kd.C (Kd.int .i64) w A0 l.length l) (hc0 : l.length ≤ c0) (hb : l.length ≤ 1048576) (hp : p ≤ l.length)
    (h1 : ∀ i, i < p → l.getD ((i : Int)).toNat 0 < n) (h2 : p < l.length → n < l.getD ((p : Int)).toNat 0) :
    Calls Try.prog 96 #[.slice A0 l.length c0, .int .i64 n] w fun e w' => ∃ v, e = .returned v ∧ Kd.R (Kd.int .i64) 3 w' w.heap.size (fun _ => True) v (l.take p ++ n :: l.drop p) ∧ Below w.heap.size w w' := by
  rw [← app_eq]
  let Rr : Ending → World → Prop := fun e w' => ∃ v, e = .returned v ∧ Kd.R (Kd.int .i64) 3 w' w.heap.size (fun _ => True) v ((([] ++ l.take p) ++ [n]) ++ l.drop p) ∧ Below w.heap.size w w'
  have ht := Kd.C_take hr0 hp
  have hd : (Kd.int .i64).C w (if c0 = ((p : Int)).toNat then A0 else A0.map (·.add (((p : Int)).toNat * 1))) (l.drop p).length (l.drop p) := by
    rw [Int.toNat_natCast]; exact Kd.C_drop hr0 hp hc0
  refine enterW (args := [.slice A0 l.length c0, .int .i64 n]) [(fun w => KI.C w A0 l.length l), (fun w => KI.C w A0 (l.take p).length (l.take p)), (fun w => KI.C w (if c0 = ((p : Int)).toNat then A0 else A0.map (·.add (((p : Int)).toNat * 1))) (l.drop p).length (l.drop p))] (fun q hq W hb => by
    rcases List.mem_cons.1 hq with rfl | hq
    · exact Kd.C_below hr0 hb
    rcases List.mem_cons.1 hq with rfl | hq
    · exact Kd.C_below ht hb
    · rw [List.mem_singleton.1 hq]; exact Kd.C_below hd hb) Try.func96 rfl rfl ?_
  show Cj Try.prog _ _ _ (bodyPost Try.prog Try.f96 Rr) _ _ _
  repeat (first
    | (apply gateO; first
      | refine Jl.yd (Y.mv rfl rfl) rfl rfl rfl ?_
      | refine Jl.yd (Y.asg rfl rfl) rfl rfl rfl ?_
      | refine Jl.yd (Y.ext rfl rfl rfl) rfl rfl rfl ?_
      | refine Jl.yd (Y.pickT rfl rfl rfl) rfl rfl rfl ?_
      | refine Jl.yd (Y.pickF rfl rfl rfl) rfl rfl rfl ?_
      | refine Jl.off rfl rfl rfl ?_
      | refine Jl.yd (Y.cmpF rfl rfl rfl rfl (by omega)) rfl rfl rfl ?_
      | refine Jl.yd (Y.cmpT rfl rfl rfl rfl (by omega)) rfl rfl rfl ?_
      | refine Jl.yd (Y.neqB rfl rfl rfl Try.underlying4) rfl rfl rfl ?_
      | refine Jl.yd (Y.cmp rfl rfl rfl rfl) rfl rfl rfl ?_
      | refine Jl.yd (Y.not rfl rfl) rfl rfl rfl ?_
      | refine Jl.yd (Y.arithN rfl rfl rfl rfl (by omega)) rfl rfl rfl ?_
      | refine Jl.yd (Y.arith64 rfl rfl rfl rfl) rfl rfl rfl ?_
      | refine Jl.yd (Y.lenS Try.underlying24 rfl rfl rfl) rfl rfl rfl ?_
      | refine Jl.splitG rfl rfl (fun h => ?_) (fun h => ?_))
    | (apply gateE; first
      | refine Jl.nil (Ej.go ?_ (fun _ _ h => h))
      | (refine Jl.nil (Ej.back (fun _ _ h => h) (by repeat (first | exact .refl | apply DropTo.tail)) ?_); repeat (first | exact trivial | refine ⟨rfl, ?_⟩)))
    | (apply gateC; first
      | refine Cj.condF rfl rfl (Cj.skip rfl (Ej.go ?_ (fun _ _ h => h)))
      | (refine Cj.condF rfl rfl (Cj.skip rfl (Ej.back (fun _ _ h => h) (by repeat (first | exact .refl | apply DropTo.tail)) ?_)); repeat (first | exact trivial | refine ⟨rfl, ?_⟩))
      | refine Cj.condF rfl rfl ?_
      | refine Cj.condT rfl rfl ?_
      | refine Cj.exit rfl (Ej.go ?_ (fun _ _ h => h))
      | refine Cj.cond rfl rfl (fun h => ?_) (fun h => ?_)
      | refine Cj.skip rfl (Ej.go ?_ (fun _ _ h => h))
      | (refine Cj.skip rfl (Ej.back (fun _ _ h => h) (by repeat (first | exact .refl | apply DropTo.tail)) ?_); repeat (first | exact trivial | refine ⟨rfl, ?_⟩))
      | refine Cj.seq rfl ?_
      | refine Cj.region rfl ?_))
  refine Cj.block rfl ?_
  refine Cj.loopP (ι := Nat) (fun q => q ≤ p) (fun q => [(0, .slice A0 l.length c0), (1, .int .i64 n), (5, .int .i64 (q : Int))])
    (fun _ => []) (fun _ => [(fun w => KI.C w A0 l.length l), (fun w => KI.C w A0 (l.take p).length (l.take p)), (fun w => KI.C w (if c0 = ((p : Int)).toNat then A0 else A0.map (·.add (((p : Int)).toNat * 1))) (l.drop p).length (l.drop p))]) (fun q => p - q) rfl 0 (Nat.zero_le _) ⟨rfl, rfl, rfl, trivial⟩ (by repeat (first | exact .nil | refine Pick.cons (by repeat (first | exact .z | apply OutAt.s)) ?_)) (fun p hp => hp) (fun i hi => ?_)
  try dsimp only at hi ⊢
  by_cases hlt : i < p
  · obtain ⟨ad, rfl⟩ : ∃ ad, A0 = some ad := by
      obtain ⟨ad, e, _⟩ := hr0.2.2 (by omega)
      exact ⟨ad, e⟩
    have hx := h1 i hlt
    repeat (first
    | (apply gateO; first
      | refine Jl.yd (Y.mv rfl rfl) rfl rfl rfl ?_
      | refine Jl.yd (Y.asg rfl rfl) rfl rfl rfl ?_
      | refine Jl.yd (Y.ext rfl rfl rfl) rfl rfl rfl ?_
      | refine Jl.yd (Y.pickT rfl rfl rfl) rfl rfl rfl ?_
      | refine Jl.yd (Y.pickF rfl rfl rfl) rfl rfl rfl ?_
      | refine Jl.off rfl rfl rfl ?_
      | refine Jl.yd (Y.cmpF rfl rfl rfl rfl (by omega)) rfl rfl rfl ?_
      | refine Jl.yd (Y.cmpT rfl rfl rfl rfl (by omega)) rfl rfl rfl ?_
      | refine Jl.yd (Y.neqB rfl rfl rfl Try.underlying4) rfl rfl rfl ?_
      | refine Jl.yd (Y.cmp rfl rfl rfl rfl) rfl rfl rfl ?_
      | refine Jl.yd (Y.not rfl rfl) rfl rfl rfl ?_
      | refine Jl.yd (Y.arithN rfl rfl rfl rfl (by omega)) rfl rfl rfl ?_
      | refine Jl.yd (Y.arith64 rfl rfl rfl rfl) rfl rfl rfl ?_
      | refine Jl.yd (Y.lenS Try.underlying24 rfl rfl rfl) rfl rfl rfl ?_
      | refine Jl.yd (Y.idx rfl rfl rfl el24 (by omega) (by omega)) rfl rfl rfl ?_
      | refine Jl.yd (Y.loadI rfl rfl sc3 (by repeat (first | exact .head _ | refine .tail _ ?_)) (i : Int) (by omega) (by omega) rfl) rfl rfl rfl ?_
      | refine Jl.splitG rfl rfl (fun h => ?_) (fun h => ?_))
    | (apply gateE; first
      | refine Jl.nil (Ej.go ?_ (fun _ _ h => h))
      | (refine Jl.nil (Ej.back (fun _ _ h => h) (by repeat (first | exact .refl | apply DropTo.tail)) ?_); repeat (first | exact trivial | refine ⟨rfl, ?_⟩)))
    | (apply gateC; first
      | refine Cj.block rfl ?_
      | refine Cj.condF rfl rfl (Cj.skip rfl (Ej.go ?_ (fun _ _ h => h)))
      | (refine Cj.condF rfl rfl (Cj.skip rfl (Ej.back (fun _ _ h => h) (by repeat (first | exact .refl | apply DropTo.tail)) ?_)); repeat (first | exact trivial | refine ⟨rfl, ?_⟩))
      | refine Cj.condF rfl rfl ?_
      | refine Cj.condT rfl rfl ?_
      | refine Cj.exit rfl (Ej.go ?_ (fun _ _ h => h))
      | refine Cj.cond rfl rfl (fun h => ?_) (fun h => ?_)
      | refine Cj.skip rfl (Ej.go ?_ (fun _ _ h => h))
      | (refine Cj.skip rfl (Ej.back (fun _ _ h => h) (by repeat (first | exact .refl | apply DropTo.tail)) ?_); repeat (first | exact trivial | refine ⟨rfl, ?_⟩))
      | refine Cj.seq rfl ?_
      | refine Cj.region rfl ?_))
    refine Jl.nil (Ej.cutP (ι := Nat) _ _ _ _ (fun _ _ h => h) (i + 1) ⟨by omega, by omega⟩ ⟨rfl, rfl, rfl, trivial⟩ (by repeat (first | exact .nil | refine Pick.cons (by repeat (first | exact .z | apply OutAt.s)) ?_)) (fun p hp => hp))
  obtain rfl : p = i := by omega
  have e1 : (l.take p).length ≤ 1048576 := by rw [List.length_take]; omega
  have e2 : (l.drop p).length ≤ 1048576 := by rw [List.length_drop]; omega
  by_cases hl : p < l.length
  · have hn := h2 hl
    obtain ⟨ad, rfl⟩ : ∃ ad, A0 = some ad := by
      obtain ⟨ad, e, _⟩ := hr0.2.2 (by omega)
      exact ⟨ad, e⟩
    repeat (first
    | (apply gateO; first
      | refine Jl.yd (Y.mv rfl rfl) rfl rfl rfl ?_
      | refine Jl.yd (Y.asg rfl rfl) rfl rfl rfl ?_
      | refine Jl.yd (Y.ext rfl rfl rfl) rfl rfl rfl ?_
      | refine Jl.yd (Y.pickT rfl rfl rfl) rfl rfl rfl ?_
      | refine Jl.yd (Y.pickF rfl rfl rfl) rfl rfl rfl ?_
      | refine Jl.off rfl rfl rfl ?_
      | refine Jl.yd (Y.cmpF rfl rfl rfl rfl (by omega)) rfl rfl rfl ?_
      | refine Jl.yd (Y.cmpT rfl rfl rfl rfl (by omega)) rfl rfl rfl ?_
      | refine Jl.yd (Y.neqB rfl rfl rfl Try.underlying4) rfl rfl rfl ?_
      | refine Jl.yd (Y.cmp rfl rfl rfl rfl) rfl rfl rfl ?_
      | refine Jl.yd (Y.not rfl rfl) rfl rfl rfl ?_
      | refine Jl.yd (Y.arithN rfl rfl rfl rfl (by omega)) rfl rfl rfl ?_
      | refine Jl.yd (Y.arith64 rfl rfl rfl rfl) rfl rfl rfl ?_
      | refine Jl.yd (Y.lenS Try.underlying24 rfl rfl rfl) rfl rfl rfl ?_
      | refine Jl.yd (Y.idx rfl rfl rfl el24 (by omega) (by omega)) rfl rfl rfl ?_
      | refine Jl.yd (Y.loadI rfl rfl sc3 (by repeat (first | exact .head _ | refine .tail _ ?_)) (p : Int) (by omega) (by omega) rfl) rfl rfl rfl ?_
      | refine Jl.splitG rfl rfl (fun h => ?_) (fun h => ?_))
    | (apply gateE; first
      | refine Jl.nil (Ej.go ?_ (fun _ _ h => h))
      | (refine Jl.nil (Ej.back (fun _ _ h => h) (by repeat (first | exact .refl | apply DropTo.tail)) ?_); repeat (first | exact trivial | refine ⟨rfl, ?_⟩)))
    | (apply gateC; first
      | refine Cj.block rfl ?_
      | refine Cj.condF rfl rfl (Cj.skip rfl (Ej.go ?_ (fun _ _ h => h)))
      | (refine Cj.condF rfl rfl (Cj.skip rfl (Ej.back (fun _ _ h => h) (by repeat (first | exact .refl | apply DropTo.tail)) ?_)); repeat (first | exact trivial | refine ⟨rfl, ?_⟩))
      | refine Cj.condF rfl rfl ?_
      | refine Cj.condT rfl rfl ?_
      | refine Cj.exit rfl (Ej.go ?_ (fun _ _ h => h))
      | refine Cj.cond rfl rfl (fun h => ?_) (fun h => ?_)
      | refine Cj.skip rfl (Ej.go ?_ (fun _ _ h => h))
      | (refine Cj.skip rfl (Ej.back (fun _ _ h => h) (by repeat (first | exact .refl | apply DropTo.tail)) ?_); repeat (first | exact trivial | refine ⟨rfl, ?_⟩))
      | refine Cj.seq rfl ?_
      | refine Cj.region rfl ?_))
    refine Cj.regionJ rfl [0, 4, 6, 7, 11] mixed ?_
    refine Jw.take 1 rfl (by decide +kernel) (by intro c a d v w h; cases d <;> exact h) (fun w => Y.mv rfl rfl) rfl rfl rfl ?_
    refine Jw.take 2 rfl (by decide +kernel) (by intro c a d v w h; cases d <;> exact h) (fun w => Y.mv rfl rfl) rfl rfl rfl ?_
    refine Jw.take 3 rfl (by decide +kernel) (by intro c a d v w h; cases d <;> exact h) (fun w => Y.sliTo rfl rfl rfl el24 (by omega) (by omega)) rfl rfl rfl ?_
    refine Jw.take 5 rfl (by decide +kernel) (by intro c a d v w h; cases d <;> exact h) (fun w => Y.mv rfl rfl) rfl rfl rfl ?_
    refine Jw.take 8 rfl (by decide +kernel) (by intro c a d v w h; cases d <;> exact h) (fun w => Y.mv rfl rfl) rfl rfl rfl ?_
    refine Jw.take 9 rfl (by decide +kernel) (by intro c a d v w h; cases d <;> exact h) (fun w => Y.mv rfl rfl) rfl rfl rfl ?_
    refine Jw.take 10 rfl (by decide +kernel) (by intro c a d v w h; cases d <;> exact h) (fun w => Y.sliFrom rfl rfl rfl el24 (by omega) (by omega)) rfl rfl rfl ?_
    refine Jw.br2 (mkD [] [0]) 0 6 rfl rfl (by decide +kernel) rfl rfl ?_ ?_
    · skip
      refine Jl.lit0 KI rfl rfl rfl rfl el24 (fun g0 => ?_)
      refine Jl.jw ?_
      refine Jw.br2 (mkD [] [0]) 4 6 rfl rfl (by decide +kernel) rfl rfl ?_ ?_
      · skip
        refine Jl.appI (xs := []) (zs := l.take p) rfl rfl rfl rfl rfl rfl ap24 (by rw [List.length_take]; omega) (by repeat (first | exact memH | refine memT ?_)) (by repeat (first | exact .z | apply OutAt.s)) (by (try simp only [List.length_append, List.length_cons, List.length_nil]); omega) (fun A4 c4 h4 => ?_)
        refine Jl.jw ?_
        refine Jw.step (mkD [] [0]) 6 rfl (by decide +kernel) rfl rfl ?_
        refine Jl.lit1 rfl rfl rfl rfl rfl el24 zero3 rfl (fun g6 => ?_)
        refine Jl.jw ?_
        refine Jw.step (mkD [] [0]) 7 rfl (by decide +kernel) rfl rfl ?_
        refine Jl.app (dk := KI) (xs := [] ++ l.take p) n (fun _ => False) rfl rfl rfl rfl rfl rfl ap24 (by repeat (first | exact .head _ | refine .tail _ ?_)) rfl (fun w => rfl) (fun u hu => by rw [List.mem_singleton.1 hu]; rfl) (by repeat (first | exact .z | apply OutAt.s)) (by (try simp only [List.length_append, List.length_cons, List.length_nil]); omega) (by (try simp only [List.length_append, List.length_cons, List.length_nil]); omega) (fun A7 c7 h7 => ?_)
        refine Jl.jw ?_
        refine Jw.step (mkD [] [0]) 11 rfl (by decide +kernel) rfl rfl ?_
        refine Jl.appI (xs := ([] ++ l.take p) ++ [n]) (zs := l.drop p) rfl rfl rfl rfl rfl rfl ap24 (by rw [List.length_drop]; omega) (by repeat (first | exact memH | refine memT ?_)) (by repeat (first | exact .z | apply OutAt.s)) (by (try simp only [List.length_append, List.length_cons, List.length_nil]); omega) (fun A11 c11 h11 => ?_)
        refine Jl.jw ?_
        refine Jw.take 12 rfl (by decide +kernel) (by intro c a d v w h; cases d <;> exact h) (fun w => Y.asg rfl rfl) rfl rfl rfl ?_
        refine Jw.done (by decide +kernel) (Ej.go ?_ (fun _ _ h => h))
        refine Cj.ret rfl (Ej.out1 (P := Try.prog) (fn := Try.f96) (R := Rr) (fun _ _ h => h) rfl rfl (fun w' hW => ⟨_, rfl, outI hW, hW.below⟩))
      · skip
        refine Jl.lit1 rfl rfl rfl rfl rfl el24 zero3 rfl (fun g6 => ?_)
        refine Jl.jw ?_
        refine Jw.step (mkD [] [0]) 4 rfl (by decide +kernel) rfl rfl ?_
        refine Jl.appI (xs := []) (zs := l.take p) rfl rfl rfl rfl rfl rfl ap24 (by rw [List.length_take]; omega) (by repeat (first | exact memH | refine memT ?_)) (by repeat (first | exact .z | apply OutAt.s)) (by (try simp only [List.length_append, List.length_cons, List.length_nil]); omega) (fun A4 c4 h4 => ?_)
        refine Jl.jw ?_
        refine Jw.step (mkD [] [0]) 7 rfl (by decide +kernel) rfl rfl ?_
        refine Jl.app (dk := KI) (xs := [] ++ l.take p) n (fun _ => False) rfl rfl rfl rfl rfl rfl ap24 (by repeat (first | exact .head _ | refine .tail _ ?_)) rfl (fun w => rfl) (fun u hu => by rw [List.mem_singleton.1 hu]; rfl) (by repeat (first | exact .z | apply OutAt.s)) (by (try simp only [List.length_append, List.length_cons, List.length_nil]); omega) (by (try simp only [List.length_append, List.length_cons, List.length_nil]); omega) (fun A7 c7 h7 => ?_)
        refine Jl.jw ?_
        refine Jw.step (mkD [] [0]) 11 rfl (by decide +kernel) rfl rfl ?_
        refine Jl.appI (xs := ([] ++ l.take p) ++ [n]) (zs := l.drop p) rfl rfl rfl rfl rfl rfl ap24 (by rw [List.length_drop]; omega) (by repeat (first | exact memH | refine memT ?_)) (by repeat (first | exact .z | apply OutAt.s)) (by (try simp only [List.length_append, List.length_cons, List.length_nil]); omega) (fun A11 c11 h11 => ?_)
        refine Jl.jw ?_
        refine Jw.take 12 rfl (by decide +kernel) (by intro c a d v w h; cases d <;> exact h) (fun w => Y.asg rfl rfl) rfl rfl rfl ?_
        refine Jw.done (by decide +kernel) (Ej.go ?_ (fun _ _ h => h))
        refine Cj.ret rfl (Ej.out1 (P := Try.prog) (fn := Try.f96) (R := Rr) (fun _ _ h => h) rfl rfl (fun w' hW => ⟨_, rfl, outI hW, hW.below⟩))
    · skip
      refine Jl.lit1 rfl rfl rfl rfl rfl el24 zero3 rfl (fun g6 => ?_)
      refine Jl.jw ?_
      refine Jw.step (mkD [] [0]) 0 rfl (by decide +kernel) rfl rfl ?_
      refine Jl.lit0 KI rfl rfl rfl rfl el24 (fun g0 => ?_)
      refine Jl.jw ?_
      refine Jw.step (mkD [] [0]) 4 rfl (by decide +kernel) rfl rfl ?_
      refine Jl.appI (xs := []) (zs := l.take p) rfl rfl rfl rfl rfl rfl ap24 (by rw [List.length_take]; omega) (by repeat (first | exact memH | refine memT ?_)) (by repeat (first | exact .z | apply OutAt.s)) (by (try simp only [List.length_append, List.length_cons, List.length_nil]); omega) (fun A4 c4 h4 => ?_)
      refine Jl.jw ?_
      refine Jw.step (mkD [] [0]) 7 rfl (by decide +kernel) rfl rfl ?_
      refine Jl.app (dk := KI) (xs := [] ++ l.take p) n (fun _ => False) rfl rfl rfl rfl rfl rfl ap24 (by repeat (first | exact .head _ | refine .tail _ ?_)) rfl (fun w => rfl) (fun u hu => by rw [List.mem_singleton.1 hu]; rfl) (by repeat (first | exact .z | apply OutAt.s)) (by (try simp only [List.length_append, List.length_cons, List.length_nil]); omega) (by (try simp only [List.length_append, List.length_cons, List.length_nil]); omega) (fun A7 c7 h7 => ?_)
      refine Jl.jw ?_
      refine Jw.step (mkD [] [0]) 11 rfl (by decide +kernel) rfl rfl ?_
      refine Jl.appI (xs := ([] ++ l.take p) ++ [n]) (zs := l.drop p) rfl rfl rfl rfl rfl rfl ap24 (by rw [List.length_drop]; omega) (by repeat (first | exact memH | refine memT ?_)) (by repeat (first | exact .z | apply OutAt.s)) (by (try simp only [List.length_append, List.length_cons, List.length_nil]); omega) (fun A11 c11 h11 => ?_)
      refine Jl.jw ?_
      refine Jw.take 12 rfl (by decide +kernel) (by intro c a d v w h; cases d <;> exact h) (fun w => Y.asg rfl rfl) rfl rfl rfl ?_
      refine Jw.done (by decide +kernel) (Ej.go ?_ (fun _ _ h => h))
      refine Cj.ret rfl (Ej.out1 (P := Try.prog) (fn := Try.f96) (R := Rr) (fun _ _ h => h) rfl rfl (fun w' hW => ⟨_, rfl, outI hW, hW.below⟩))
  · repeat (first
    | (apply gateO; first
      | refine Jl.yd (Y.mv rfl rfl) rfl rfl rfl ?_
      | refine Jl.yd (Y.asg rfl rfl) rfl rfl rfl ?_
      | refine Jl.yd (Y.ext rfl rfl rfl) rfl rfl rfl ?_
      | refine Jl.yd (Y.pickT rfl rfl rfl) rfl rfl rfl ?_
      | refine Jl.yd (Y.pickF rfl rfl rfl) rfl rfl rfl ?_
      | refine Jl.off rfl rfl rfl ?_
      | refine Jl.yd (Y.cmpF rfl rfl rfl rfl (by omega)) rfl rfl rfl ?_
      | refine Jl.yd (Y.cmpT rfl rfl rfl rfl (by omega)) rfl rfl rfl ?_
      | refine Jl.yd (Y.neqB rfl rfl rfl Try.underlying4) rfl rfl rfl ?_
      | refine Jl.yd (Y.cmp rfl rfl rfl rfl) rfl rfl rfl ?_
      | refine Jl.yd (Y.not rfl rfl) rfl rfl rfl ?_
      | refine Jl.yd (Y.arithN rfl rfl rfl rfl (by omega)) rfl rfl rfl ?_
      | refine Jl.yd (Y.arith64 rfl rfl rfl rfl) rfl rfl rfl ?_
      | refine Jl.yd (Y.lenS Try.underlying24 rfl rfl rfl) rfl rfl rfl ?_
      | refine Jl.splitG rfl rfl (fun h => ?_) (fun h => ?_))
    | (apply gateE; first
      | refine Jl.nil (Ej.go ?_ (fun _ _ h => h))
      | (refine Jl.nil (Ej.back (fun _ _ h => h) (by repeat (first | exact .refl | apply DropTo.tail)) ?_); repeat (first | exact trivial | refine ⟨rfl, ?_⟩)))
    | (apply gateC; first
      | refine Cj.block rfl ?_
      | refine Cj.condF rfl rfl (Cj.skip rfl (Ej.go ?_ (fun _ _ h => h)))
      | (refine Cj.condF rfl rfl (Cj.skip rfl (Ej.back (fun _ _ h => h) (by repeat (first | exact .refl | apply DropTo.tail)) ?_)); repeat (first | exact trivial | refine ⟨rfl, ?_⟩))
      | refine Cj.condF rfl rfl ?_
      | refine Cj.condT rfl rfl ?_
      | refine Cj.exit rfl (Ej.go ?_ (fun _ _ h => h))
      | refine Cj.cond rfl rfl (fun h => ?_) (fun h => ?_)
      | refine Cj.skip rfl (Ej.go ?_ (fun _ _ h => h))
      | (refine Cj.skip rfl (Ej.back (fun _ _ h => h) (by repeat (first | exact .refl | apply DropTo.tail)) ?_); repeat (first | exact trivial | refine ⟨rfl, ?_⟩))
      | refine Cj.seq rfl ?_
      | refine Cj.region rfl ?_))
    refine Cj.regionJ rfl [0, 4, 6, 7, 11] mixed ?_
    refine Jw.take 1 rfl (by decide +kernel) (by intro c a d v w h; cases d <;> exact h) (fun w => Y.mv rfl rfl) rfl rfl rfl ?_
    refine Jw.take 2 rfl (by decide +kernel) (by intro c a d v w h; cases d <;> exact h) (fun w => Y.mv rfl rfl) rfl rfl rfl ?_
    refine Jw.take 3 rfl (by decide +kernel) (by intro c a d v w h; cases d <;> exact h) (fun w => Y.sliTo rfl rfl rfl el24 (by omega) (by omega)) rfl rfl rfl ?_
    refine Jw.take 5 rfl (by decide +kernel) (by intro c a d v w h; cases d <;> exact h) (fun w => Y.mv rfl rfl) rfl rfl rfl ?_
    refine Jw.take 8 rfl (by decide +kernel) (by intro c a d v w h; cases d <;> exact h) (fun w => Y.mv rfl rfl) rfl rfl rfl ?_
    refine Jw.take 9 rfl (by decide +kernel) (by intro c a d v w h; cases d <;> exact h) (fun w => Y.mv rfl rfl) rfl rfl rfl ?_
    refine Jw.take 10 rfl (by decide +kernel) (by intro c a d v w h; cases d <;> exact h) (fun w => Y.sliFrom rfl rfl rfl el24 (by omega) (by omega)) rfl rfl rfl ?_
    refine Jw.br2 (mkD [] [0]) 0 6 rfl rfl (by decide +kernel) rfl rfl ?_ ?_
    · skip
      refine Jl.lit0 KI rfl rfl rfl rfl el24 (fun g0 => ?_)
      refine Jl.jw ?_
      refine Jw.br2 (mkD [] [0]) 4 6 rfl rfl (by decide +kernel) rfl rfl ?_ ?_
      · skip
        refine Jl.appI (xs := []) (zs := l.take p) rfl rfl rfl rfl rfl rfl ap24 (by rw [List.length_take]; omega) (by repeat (first | exact memH | refine memT ?_)) (by repeat (first | exact .z | apply OutAt.s)) (by (try simp only [List.length_append, List.length_cons, List.length_nil]); omega) (fun A4 c4 h4 => ?_)
        refine Jl.jw ?_
        refine Jw.step (mkD [] [0]) 6 rfl (by decide +kernel) rfl rfl ?_
        refine Jl.lit1 rfl rfl rfl rfl rfl el24 zero3 rfl (fun g6 => ?_)
        refine Jl.jw ?_
        refine Jw.step (mkD [] [0]) 7 rfl (by decide +kernel) rfl rfl ?_
        refine Jl.app (dk := KI) (xs := [] ++ l.take p) n (fun _ => False) rfl rfl rfl rfl rfl rfl ap24 (by repeat (first | exact .head _ | refine .tail _ ?_)) rfl (fun w => rfl) (fun u hu => by rw [List.mem_singleton.1 hu]; rfl) (by repeat (first | exact .z | apply OutAt.s)) (by (try simp only [List.length_append, List.length_cons, List.length_nil]); omega) (by (try simp only [List.length_append, List.length_cons, List.length_nil]); omega) (fun A7 c7 h7 => ?_)
        refine Jl.jw ?_
        refine Jw.step (mkD [] [0]) 11 rfl (by decide +kernel) rfl rfl ?_
        refine Jl.appI (xs := ([] ++ l.take p) ++ [n]) (zs := l.drop p) rfl rfl rfl rfl rfl rfl ap24 (by rw [List.length_drop]; omega) (by repeat (first | exact memH | refine memT ?_)) (by repeat (first | exact .z | apply OutAt.s)) (by (try simp only [List.length_append, List.length_cons, List.length_nil]); omega) (fun A11 c11 h11 => ?_)
        refine Jl.jw ?_
        refine Jw.take 12 rfl (by decide +kernel) (by intro c a d v w h; cases d <;> exact h) (fun w => Y.asg rfl rfl) rfl rfl rfl ?_
        refine Jw.done (by decide +kernel) (Ej.go ?_ (fun _ _ h => h))
        refine Cj.ret rfl (Ej.out1 (P := Try.prog) (fn := Try.f96) (R := Rr) (fun _ _ h => h) rfl rfl (fun w' hW => ⟨_, rfl, outI hW, hW.below⟩))
      · skip
        refine Jl.lit1 rfl rfl rfl rfl rfl el24 zero3 rfl (fun g6 => ?_)
        refine Jl.jw ?_
        refine Jw.step (mkD [] [0]) 4 rfl (by decide +kernel) rfl rfl ?_
        refine Jl.appI (xs := []) (zs := l.take p) rfl rfl rfl rfl rfl rfl ap24 (by rw [List.length_take]; omega) (by repeat (first | exact memH | refine memT ?_)) (by repeat (first | exact .z | apply OutAt.s)) (by (try simp only [List.length_append, List.length_cons, List.length_nil]); omega) (fun A4 c4 h4 => ?_)
        refine Jl.jw ?_
        refine Jw.step (mkD [] [0]) 7 rfl (by decide +kernel) rfl rfl ?_
        refine Jl.app (dk := KI) (xs := [] ++ l.take p) n (fun _ => False) rfl rfl rfl rfl rfl rfl ap24 (by repeat (first | exact .head _ | refine .tail _ ?_)) rfl (fun w => rfl) (fun u hu => by rw [List.mem_singleton.1 hu]; rfl) (by repeat (first | exact .z | apply OutAt.s)) (by (try simp only [List.length_append, List.length_cons, List.length_nil]); omega) (by (try simp only [List.length_append, List.length_cons, List.length_nil]); omega) (fun A7 c7 h7 => ?_)
        refine Jl.jw ?_
        refine Jw.step (mkD [] [0]) 11 rfl (by decide +kernel) rfl rfl ?_
        refine Jl.appI (xs := ([] ++ l.take p) ++ [n]) (zs := l.drop p) rfl rfl rfl rfl rfl rfl ap24 (by rw [List.length_drop]; omega) (by repeat (first | exact memH | refine memT ?_)) (by repeat (first | exact .z | apply OutAt.s)) (by (try simp only [List.length_append, List.length_cons, List.length_nil]); omega) (fun A11 c11 h11 => ?_)
        refine Jl.jw ?_
        refine Jw.take 12 rfl (by decide +kernel) (by intro c a d v w h; cases d <;> exact h) (fun w => Y.asg rfl rfl) rfl rfl rfl ?_
        refine Jw.done (by decide +kernel) (Ej.go ?_ (fun _ _ h => h))
        refine Cj.ret rfl (Ej.out1 (P := Try.prog) (fn := Try.f96) (R := Rr) (fun _ _ h => h) rfl rfl (fun w' hW => ⟨_, rfl, outI hW, hW.below⟩))
    · skip
      refine Jl.lit1 rfl rfl rfl rfl rfl el24 zero3 rfl (fun g6 => ?_)
      refine Jl.jw ?_
      refine Jw.step (mkD [] [0]) 0 rfl (by decide +kernel) rfl rfl ?_
      refine Jl.lit0 KI rfl rfl rfl rfl el24 (fun g0 => ?_)
      refine Jl.jw ?_
      refine Jw.step (mkD [] [0]) 4 rfl (by decide +kernel) rfl rfl ?_
      refine Jl.appI (xs := []) (zs := l.take p) rfl rfl rfl rfl rfl rfl ap24 (by rw [List.length_take]; omega) (by repeat (first | exact memH | refine memT ?_)) (by repeat (first | exact .z | apply OutAt.s)) (by (try simp only [List.length_append, List.length_cons, List.length_nil]); omega) (fun A4 c4 h4 => ?_)
      refine Jl.jw ?_
      refine Jw.step (mkD [] [0]) 7 rfl (by decide +kernel) rfl rfl ?_
      refine Jl.app (dk := KI) (xs := [] ++ l.take p) n (fun _ => False) rfl rfl rfl rfl rfl rfl ap24 (by repeat (first | exact .head _ | refine .tail _ ?_)) rfl (fun w => rfl) (fun u hu => by rw [List.mem_singleton.1 hu]; rfl) (by repeat (first | exact .z | apply OutAt.s)) (by (try simp only [List.length_append, List.length_cons, List.length_nil]); omega) (by (try simp only [List.length_append, List.length_cons, List.length_nil]); omega) (fun A7 c7 h7 => ?_)
      refine Jl.jw ?_
      refine Jw.step (mkD [] [0]) 11 rfl (by decide +kernel) rfl rfl ?_
      refine Jl.appI (xs := ([] ++ l.take p) ++ [n]) (zs := l.drop p) rfl rfl rfl rfl rfl rfl ap24 (by rw [List.length_drop]; omega) (by repeat (first | exact memH | refine memT ?_)) (by repeat (first | exact .z | apply OutAt.s)) (by (try simp only [List.length_append, List.length_cons, List.length_nil]); omega) (fun A11 c11 h11 => ?_)
      refine Jl.jw ?_
      refine Jw.take 12 rfl (by decide +kernel) (by intro c a d v w h; cases d <;> exact h) (fun w => Y.asg rfl rfl) rfl rfl rfl ?_
      refine Jw.done (by decide +kernel) (Ej.go ?_ (fun _ _ h => h))
      refine Cj.ret rfl (Ej.out1 (P := Try.prog) (fn := Try.f96) (R := Rr) (fun _ _ h => h) rfl rfl (fun w' hW => ⟨_, rfl, outI hW, hW.below⟩))
/-- The place of n. -/
def pos (l : List Int) (n : Int) : Nat := (l.takeWhile fun x => decide (x < n)).length
def put (l : List Int) (n : Int) : List Int := l.take (pos l n) ++ n :: l.drop (pos l n)
theorem pos_cons (a : Int) (l : List Int) (n : Int) : pos (a :: l) n = if a < n then pos l n + 1 else 0 := by
  unfold pos
  rw [List.takeWhile_cons]
  by_cases h : a < n <;> simp [h]
theorem pos_le (n : Int) : ∀ l : List Int, pos l n ≤ l.length
  | [] => Nat.le_refl _
  | a :: l => by
    rw [pos_cons]
    have := pos_le n l
    split <;> simp <;> omega
theorem pos_lt (n : Int) : ∀ (l : List Int) (i : Nat), i < pos l n → l.getD i 0 < n
  | [], i, h => by simp [pos] at h
  | a :: l, i, h => by
    rw [pos_cons] at h
    split at h
    · rename_i ha
      cases i with
      | zero => exact ha
      | succ i => exact pos_lt n l i (by omega)
    · omega
theorem pos_ge (n : Int) : ∀ l : List Int, n ∉ l → pos l n < l.length → n < l.getD (pos l n) 0
  | [], _, h => by simp [pos] at h
  | a :: l, hn, h => by
    rw [pos_cons] at h ⊢
    simp only [List.mem_cons, not_or] at hn
    split at h
    · rename_i ha
      rw [if_pos ha]
      exact pos_ge n l hn.2 (by simp at h; omega)
    · rename_i ha
      rw [if_neg ha]
      show n < a
      omega
theorem full (A0 : Option Addr) (c0 : Nat) (l : List Int) (n : Int) (w : World) (hr0 : Kd.C (Kd.int .i64) w A0 l.length l) (hc0 : l.length ≤ c0) (hb : l.length ≤ 1048576) (hn : n ∉ l) :
    Calls Try.prog 96 #[.slice A0 l.length c0, .int .i64 n] w fun e w' => ∃ v, e = .returned v ∧ Kd.R (Kd.int .i64) 3 w' w.heap.size (fun _ => True) v (put l n) ∧ Below w.heap.size w w' :=
  calls A0 c0 l n (pos l n) w hr0 hc0 hb (pos_le n l) (fun i hi => by rw [Int.toNat_natCast]; exact pos_lt n l i hi) (fun h => by rw [Int.toNat_natCast]; exact pos_ge n l hn h)
end Put
theorem put_cons (a : Int) (l : List Int) (n : Int) : Put.put (a :: l) n = if a < n then a :: Put.put l n else n :: a :: l := by
  unfold Put.put
  rw [Put.pos_cons]
  split <;> simp
open Go.Proofs.Ytkglpfdoefdhdaa.WK.PU in
theorem put_mem (n x : Int) : ∀ l : List Int, x ∈ Put.put l n ↔ x = n ∨ x ∈ l
  | [] => by simp [Put.put, Put.pos]
  | a :: l => by
    rw [put_cons]
    split
    · rw [List.mem_cons, put_mem n x l, List.mem_cons]
      constructor
      · rintro (h | h | h)
        · exact .inr (.inl h)
        · exact .inl h
        · exact .inr (.inr h)
      · rintro (h | h | h)
        · exact .inr (.inl h)
        · exact .inl h
        · exact .inr (.inr h)
    · rw [List.mem_cons]
open Go.Proofs.Ytkglpfdoefdhdaa.WK.PU in
theorem put_asc (n : Int) : ∀ l : List Int, l.Pairwise (fun a b => a < b) → n ∉ l → (Put.put l n).Pairwise (fun a b => a < b)
  | [], _, _ => by simp [Put.put, Put.pos]
  | a :: l, h, hn => by
    rw [List.pairwise_cons] at h
    simp only [List.mem_cons, not_or] at hn
    rw [put_cons]
    split
    · rename_i ha
      rw [List.pairwise_cons]
      refine ⟨fun x hx => ?_, put_asc n l h.2 hn.2⟩
      rcases (put_mem n x l).1 hx with rfl | hx
      · exact ha
      · exact h.1 x hx
    · rename_i ha
      rw [List.pairwise_cons, List.pairwise_cons]
      refine ⟨fun x hx => ?_, h⟩
      rcases List.mem_cons.1 hx with rfl | hx
      · omega
      · have := h.1 x hx
        omega
open Go.Proofs.Ytkglpfdoefdhdaa.WK.PU in
theorem put_len (l : List Int) (n : Int) : (Put.put l n).length = l.length + 1 := by
  have := Put.pos_le n l
  unfold Put.put
  rw [List.length_append, List.length_cons, List.length_take, List.length_drop]
  omega
open Go.Proofs.Ytkglpfdoefdhdaa.WK.PU in
theorem asc_ext : ∀ {a b : List Int}, a.Pairwise (fun x y => x < y) → b.Pairwise (fun x y => x < y) → (∀ x, x ∈ a ↔ x ∈ b) → a = b
  | [], [], _, _, _ => rfl
  | [], y :: b, _, _, h => by have := (h y).2 (.head _); cases this
  | x :: a, [], _, _, h => by have := (h x).1 (.head _); cases this
  | x :: a, y :: b, ha, hb, h => by
    rw [List.pairwise_cons] at ha hb
    have e : x = y := by
      rcases List.mem_cons.1 ((h x).1 (.head _)) with e | e
      · exact e
      · rcases List.mem_cons.1 ((h y).2 (.head _)) with e2 | e2
        · exact e2.symm
        · have := hb.1 x e; have := ha.1 y e2; omega
    subst e
    congr 1
    refine asc_ext ha.2 hb.2 (fun z => ?_)
    constructor
    · intro hz
      have := ha.1 z hz
      rcases List.mem_cons.1 ((h z).1 (.tail _ hz)) with e | e
      · omega
      · exact e
    · intro hz
      have := hb.1 z hz
      rcases List.mem_cons.1 ((h z).2 (.tail _ hz)) with e | e
      · omega
      · exact e

end PU
end Go.Proofs.Ytkglpfdoefdhdaa.WK

namespace Go.Proofs.Ytkglpfdoefdhdaa.Q
open Go.RowKit Go.Proofs.YtkglpfdoefdhdaaW.PrintWords Go.Proofs.YtkglpfdoefdhdaaW.PrintLast Go.Proofs.YtkglpfdoefdhdaaW.PrintMore
attribute [local go_sem] max2_int min2_int max_two min_two max_three min_three max_four min_four
set_option linter.unusedVariables false
set_option linter.unusedSimpArgs false

def spec_l23Patch.T1 : Bool × List (List Nat × List Nat) := (true, [([], []), ([0], [0]), ([1], [1]), ([2], [2]), ([], []), ([4], [4]), ([5], [5]), ([6, 3], [6]), ([], []), ([8], [8]), ([9], [9]), ([], []), ([11], [11]), ([12], [12]), ([10, 13, 7], [10, 13]), ([], []), ([15], [15]), ([16], [16]), ([], []), ([18], [18]), ([19], [19]), ([17, 20, 14], [17, 20]), ([3, 7, 14, 21], [3, 7, 14, 21]), ([22, 21, 0, 1, 2, 3, 4, 5, 6, 7, 8, 9, 10, 11, 12, 13, 14, 15, 16, 17, 18, 19, 20, 21, 22], [22])])
def spec_l23Patch.B1 : List Nat := [0, 1, 3, 7, 0, 16, 48, 127, 0, 256, 768, 0, 2048, 6144, 16383, 0, 32768, 98304, 0, 262144, 786432, 2097151, 4194303, 8388607]
theorem spec_l23Patch.tab1 : rtab .any (opsOf Try.f112 1) = spec_l23Patch.T1 := by kernel_rfl
theorem spec_l23Patch.bits1 : waitsOk spec_l23Patch.T1.2 spec_l23Patch.B1 = true := by kernel_rfl
end Go.Proofs.Ytkglpfdoefdhdaa.Q

namespace Go.Proofs.Ytkglpfdoefdhdaa.M
open Go.RowKit Go.Proofs.Ytkglpfdoefdhdaa.Q Go.Proofs.YtkglpfdoefdhdaaW.PrintWords Go.Proofs.YtkglpfdoefdhdaaW.PrintLast Go.Proofs.YtkglpfdoefdhdaaW.Pl Classical
set_option linter.unusedSimpArgs false
set_option linter.unusedVariables false

theorem mostMx (a : Int) : spec_l1Most.f 0 a = some (mx a 0) := by
  unfold spec_l1Most.f mx
  by_cases h : 0 > a
  · rw [if_pos h, if_pos (by omega)]
  · rw [if_neg h]
    by_cases h2 : a < 0
    · omega
    · rw [if_neg h2]
end Go.Proofs.Ytkglpfdoefdhdaa.M

namespace Go.Proofs.Ytkglpfdoefdhdaa.WK
open Go Go.RowKit Go.Proofs.Ytkglpfdoefdhdaa.Q Go.Proofs.Ytkglpfdoefdhdaa.M Go.Proofs.YtkglpfdoefdhdaaW.PrintWords Go.Proofs.YtkglpfdoefdhdaaW.PrintLast Go.Proofs.YtkglpfdoefdhdaaW.Pl
open Go.Proofs.YtkglpfdoefdhdaaW.SL (goI insR isort snoc_ind isort_snoc isort_len isort_mem sortI)
set_option linter.unusedSimpArgs false
set_option linter.unusedVariables false
namespace FW
open MO (mixed sc3 agg26 zero3 rng rng_succ rng_len rng_mem)
def sumI : List Int → Int
  | [] => 0
  | a :: r => a + sumI r
theorem sumI_app (a b : List Int) : sumI (a ++ b) = sumI a + sumI b := by
  induction a with
  | nil => simp [sumI]
  | cons x a ih => simp only [List.cons_append, sumI, ih]; omega
theorem sumI_perm {a b : List Int} (h : a.Perm b) : sumI a = sumI b := by
  induction h with
  | nil => rfl
  | cons x _ ih => simp only [sumI, ih]
  | swap x y l => simp only [sumI]; omega
  | trans _ _ h1 h2 => exact h1.trans h2
def wsum (wd ht : Int) (l : List S35) : Int := sumI (l.map (wtF wd ht))
theorem wsum_b {wd ht : Int} : ∀ {l : List S35}, (∀ x ∈ l, okF wd ht x = true) → 0 ≤ wsum wd ht l ∧ wsum wd ht l ≤ 90 * (l.length : Int)
  | [], _ => by simp [wsum, sumI]
  | x :: l, h => by
    have h1 := wt_b (h x List.mem_cons_self)
    have h2 := wsum_b (l := l) (fun y hy => h y (List.mem_cons_of_mem _ hy))
    unfold wsum at *
    simp only [List.map_cons, sumI, List.length_cons]
    omega
theorem wsum_take {wd ht : Int} {l : List S35} {i : Nat} (hi : i < l.length) : wsum wd ht (l.take (i + 1)) = wsum wd ht (l.take i) + wtF wd ht (nth l i z35) := by
  unfold wsum
  rw [List.take_add_one, List.getElem?_eq_getElem hi, List.map_append, sumI_app, nth_get hi]
  simp [sumI]
theorem take_ok {wd ht : Int} {l : List S35} (h : ∀ x ∈ l, okF wd ht x = true) (i : Nat) : ∀ x ∈ l.take i, okF wd ht x = true := fun x hx => h x (List.mem_of_mem_take hx)
theorem sWt {wd ht : Int} {cs : List Int} {x : S35} (hg : goodC wd ht cs = true) (hx : okF wd ht x = true) : spec_l22Weight.f wd ht cs x.f0 x.f1 x.f2 x.f3 = some (wtF wd ht x) := by
  obtain ⟨g1, g2, _⟩ := goodC_at hg
  have hb := base_b hx
  have hx' := hx
  unfold okF at hx'
  rw [decide_eq_true_iff] at hx'
  have hbe : baseF x = facF x.f0 * x.f3 := rfl
  have hr : rd [1, 2, 3, 5, 2] x.f0 = facF x.f0 := by
    rcases (by omega : x.f0 = 0 ∨ x.f0 = 1 ∨ x.f0 = 2 ∨ x.f0 = 3 ∨ x.f0 = 4) with e | e | e | e | e <;> rw [e] <;> rfl
  unfold spec_l22Weight.f
  simp only [Option.bind_some, hr, if_pos hx'.1.1, if_pos (show x.f0 < (([1, 2, 3, 5, 2] : List Int).length : Int) by simp; omega), sMid g2, sMid g1]
  rw [Int.mul_comm x.f3, ← hbe, w64 (x := baseF x) (by omega), w64 (by omega)]
  unfold wtF
  cases midB x.f1 ht <;> cases midB x.f2 wd <;> simp
def gr (s : Int) : Int := if s ≤ 10 then 1 else if s ≤ 25 then 2 else if s ≤ 50 then 3 else 4
theorem iGr (s : Int) : impl_gradeOf.f s = some (gr s) := by
  unfold impl_gradeOf.f gr
  repeat' split
  all_goals first | rfl | omega
theorem sGr {s : Int} (h : 0 ≤ s) : spec_l22Grade.f (mx (100 - s) 0) = some (gr s) := by
  unfold spec_l22Grade.f gr mx
  repeat' split
  all_goals first | rfl | (exfalso; omega) | (congr 1; omega)
theorem sPts {wd ht : Int} {cs : List Int} {l : List S35} (hg : goodC wd ht cs = true) (ho : ∀ x ∈ l, okF wd ht x = true) (hl : l.length ≤ 12) : Ev (fun k => spec_l22Points.f k wd ht cs l) (mx (100 - wsum wd ht l) 0) := by
  unfold spec_l22Points.f
  have main : ∀ d (i : Nat) (p : Int), l.length - i = d → i ≤ l.length → p = 100 - wsum wd ht (l.take i) → Ev (fun k => spec_l22Points.l0 k l p (i : Int) wd ht cs) (mx (100 - wsum wd ht l) 0) := by
    intro d
    induction d with
    | zero =>
      intro i p hd hi hp
      obtain rfl : i = l.length := by omega
      rw [List.take_length] at hp
      refine Ev.succ ?_
      simp only [spec_l22Points.l0, if_neg (show ¬ ((l.length : Int) < (l.length : Int)) by omega), mostMx, Option.bind_some, hp]
      exact Ev.now _
    | succ d ih =>
      intro i p hd hi hp
      have hlt : i < l.length := by omega
      have h1 := wsum_b (take_ok ho i)
      have h2 : okF wd ht (nth l i z35) = true := ho _ (nth_mem hlt)
      have h3 := wt_b h2
      have hw := sWt hg h2
      rw [List.length_take] at h1
      refine Ev.succ ?_
      simp only [spec_l22Points.l0, rd35, if_pos (show (i : Int) < (l.length : Int) by omega), if_pos (show (0 : Int) ≤ (i : Int) by omega), hw, Option.bind_some, stepI i (by omega)]
      rw [w64 (x := p - wtF wd ht (nth l i z35)) (by omega)]
      exact ih (i + 1) _ (by omega) (by omega) (by rw [wsum_take hlt]; omega)
  exact main l.length 0 100 rfl (by omega) (by simp [wsum, sumI])
theorem ptsC {wd ht : Int} {cs : List Int} {l : List S35} (hg : goodC wd ht cs = true) (ho : ∀ x ∈ l, okF wd ht x = true) (hl : l.length ≤ 12) {A0 : Option Addr} {c0 : Nat} {A1 : Option Addr} {c1 : Nat} {w : World} (h1 : Kd.C (Kd.int .i64) w A0 cs.length cs) (h2 : cs.length ≤ c0) (h3 : Kd.C k35 w A1 l.length l) (h4 : l.length ≤ c1) : Calls Try.prog 93 #[.agg #[.int .i64 wd, .int .i64 ht, .slice A0 cs.length c0], .slice A1 l.length c1] w fun e w' => e = .returned (.int .i64 (mx (100 - wsum wd ht l) 0)) ∧ Below w.heap.size w w' := by
  obtain ⟨k, hk⟩ := (sPts hg ho hl).rounds
  exact spec_l22Points.calls k wd ht A0 c0 cs A1 c1 l _ w h1 h2 h3 h4 hk
end FW
end Go.Proofs.Ytkglpfdoefdhdaa.WK

namespace Go.Proofs.Ytkglpfdoefdhdaa.WK
open Go Go.RowKit Go.Proofs.Ytkglpfdoefdhdaa.Q Go.Proofs.Ytkglpfdoefdhdaa.M Go.Proofs.YtkglpfdoefdhdaaW.PrintWords Go.Proofs.YtkglpfdoefdhdaaW.PrintLast Go.Proofs.YtkglpfdoefdhdaaW.Pl
open Go.Proofs.YtkglpfdoefdhdaaW.SL (goI insR isort snoc_ind isort_snoc isort_len isort_mem sortI)
set_option linter.unusedSimpArgs false
set_option linter.unusedVariables false
namespace FW
open MO (rng rng_succ rng_len rng_mem)
section
variable (f : Int → Int)
def ltD (a b : Int) : Bool := decide (f b < f a)
def RD (a b : Int) : Prop := f b < f a ∨ (f b = f a ∧ a < b)
def ordD (n : Nat) : List Int := isort (ltD f) (rng n)
theorem ordD_succ (n : Nat) : ordD f (n + 1) = insR (ltD f) (ordD f n) (n : Int) := by unfold ordD; rw [rng_succ, isort_snoc]
theorem ordD_len (n : Nat) : (ordD f n).length = n := by unfold ordD; rw [isort_len, rng_len]
theorem goI_perm (lt : Int → Int → Bool) (x : Int) : ∀ A B : List Int, (goI lt x A B).Perm (x :: (A ++ B))
  | [], B => by unfold goI; exact List.Perm.refl _
  | a :: A, B => by
    unfold goI
    split
    · refine (goI_perm lt x A (a :: B)).trans (List.Perm.cons x ?_)
      exact List.perm_middle
    · rw [show A.reverse ++ a :: x :: B = (a :: A).reverse ++ x :: B by simp]
      refine List.perm_middle.trans (List.Perm.cons x ?_)
      exact (List.reverse_perm (a :: A)).append_right B
theorem ordD_perm (n : Nat) : (ordD f n).Perm (rng n) := by
  induction n with
  | zero => exact List.Perm.refl _
  | succ n ih =>
    rw [ordD_succ, rng_succ]
    unfold insR
    refine (goI_perm _ _ _ _).trans ?_
    rw [List.append_nil]
    refine (List.Perm.cons _ ((List.reverse_perm _).trans ih)).trans ?_
    exact (List.perm_append_comm (l₁ := [(n : Int)]) (l₂ := rng n))
theorem rng_nodup (n : Nat) : (rng n).Nodup := by
  induction n with
  | zero => exact List.nodup_nil
  | succ n ih =>
    rw [rng_succ, List.nodup_append]
    refine ⟨ih, by simp, fun a ha b hb e => ?_⟩
    obtain ⟨i, hi, rfl⟩ := rng_mem ha
    rw [List.mem_singleton.1 hb] at e
    omega
theorem mem_rng {n i : Nat} (h : i < n) : (i : Int) ∈ rng n := by
  unfold rng
  exact List.mem_map.2 ⟨i, List.mem_range.2 h, rfl⟩
theorem ordD_nodup (n : Nat) : (ordD f n).Nodup := (ordD_perm f n).nodup_iff.2 (rng_nodup n)
theorem goI_pw (x : Int) : ∀ A B : List Int, (A.reverse ++ B).Pairwise (RD f) → (∀ y ∈ A, y < x) → (∀ b ∈ B, f b < f x) → (goI (ltD f) x A B).Pairwise (RD f)
  | [], B, h, h1, h2 => by
    unfold goI
    exact List.pairwise_cons.2 ⟨fun b hb => .inl (h2 b hb), by simpa using h⟩
  | a :: A, B, h, h1, h2 => by
    unfold goI
    by_cases hlt : f a < f x
    · rw [if_pos (by simpa [ltD] using hlt)]
      refine goI_pw x A (a :: B) (by simpa using h) (fun y hy => h1 y (List.mem_cons_of_mem _ hy)) (fun b hb => ?_)
      rcases List.mem_cons.1 hb with rfl | hb
      · exact hlt
      · exact h2 b hb
    · rw [if_neg (by simpa [ltD] using hlt), show A.reverse ++ a :: x :: B = (a :: A).reverse ++ x :: B by simp]
      rw [List.pairwise_append] at h ⊢
      obtain ⟨p1, p2, p3⟩ := h
      refine ⟨p1, List.pairwise_cons.2 ⟨fun b hb => .inl (h2 b hb), p2⟩, fun y hy b hb => ?_⟩
      rcases List.mem_cons.1 hb with rfl | hb
      · have hyx : y < b := h1 y (List.mem_reverse.1 hy)
        have hya : f a ≤ f y := by
          rw [List.reverse_cons, List.mem_append] at hy
          rcases hy with hy | hy
          · rw [List.reverse_cons, List.pairwise_append] at p1
            rcases p1.2.2 y hy a (by simp) with e | e
            · omega
            · omega
          · rw [List.mem_singleton.1 hy]; exact Int.le_refl _
        unfold RD
        omega
      · exact p3 y hy b hb
theorem ordD_mem {n : Nat} {a : Int} (h : a ∈ ordD f n) : ∃ i : Nat, i < n ∧ a = (i : Int) := rng_mem (isort_mem h)
theorem ordD_pw (n : Nat) : (ordD f n).Pairwise (RD f) := by
  induction n with
  | zero => exact List.Pairwise.nil
  | succ n ih =>
    rw [ordD_succ]
    unfold insR
    refine goI_pw f _ _ _ (by simpa using ih) (fun y hy => ?_) (fun b hb => by cases hb)
    obtain ⟨i, hi, rfl⟩ := ordD_mem f (List.mem_reverse.1 hy)
    omega
/-- The pick of the greatest that is not in S. -/
def scanB (S : List Int) : Nat → Int × Int
  | 0 => (0, -1)
  | i + 1 => if (i : Int) ∉ S ∧ (scanB S i).2 < f i then ((i : Int), f i) else scanB S i
theorem ord_cases {n m : Nat} (hm : m < n) {a : Int} (ha : (ordD f n)[m]? = some a) {S : List Int} (hS : ∀ x, x ∈ S ↔ x ∈ (ordD f n).take m) : a ∉ S ∧ ∀ j : Nat, j < n → (j : Int) ∉ S → (j : Int) = a ∨ RD f a j := by
  obtain ⟨hlt, rfl⟩ := List.getElem?_eq_some_iff.1 ha
  have hsp : ordD f n = (ordD f n).take m ++ (ordD f n)[m] :: (ordD f n).drop (m + 1) := by
    rw [← List.drop_eq_getElem_cons hlt, List.take_append_drop]
  have hnd := ordD_nodup f n
  have hpw := ordD_pw f n
  rw [hsp, List.nodup_append] at hnd
  rw [hsp, List.pairwise_append] at hpw
  refine ⟨fun h => ?_, fun j hj hjS => ?_⟩
  · exact hnd.2.2 _ ((hS _).1 h) _ List.mem_cons_self rfl
  · have hjo : (j : Int) ∈ ordD f n := (ordD_perm f n).mem_iff.2 (mem_rng hj)
    rw [hsp, List.mem_append] at hjo
    rcases hjo with h | h
    · exact absurd ((hS _).2 h) hjS
    · rcases List.mem_cons.1 h with h | h
      · exact .inl h
      · exact .inr ((List.pairwise_cons.1 hpw.2.1).1 _ h)
theorem scan_ord {n m : Nat} (hm : m < n) (hf : ∀ i : Nat, i < n → 0 ≤ f i) {a : Int} (ha : (ordD f n)[m]? = some a) {S : List Int} (hS : ∀ x, x ∈ S ↔ x ∈ (ordD f n).take m) : scanB f S n = (a, f a) := by
  obtain ⟨h1, h2⟩ := ord_cases f hm ha hS
  obtain ⟨k, hk, rfl⟩ := ordD_mem f (List.mem_of_getElem? ha)
  have main : ∀ i : Nat, i ≤ n → (i ≤ k → (scanB f S i).2 < f k) ∧ (k < i → scanB f S i = ((k : Int), f k)) := by
    intro i
    induction i with
    | zero => exact fun _ => ⟨fun _ => by have := hf k hk; show (-1 : Int) < f k; omega, fun h => by omega⟩
    | succ i ih =>
      intro hi
      obtain ⟨i1, i2⟩ := ih (by omega)
      refine ⟨fun hik => ?_, fun hik => ?_⟩
      · unfold scanB
        split
        · rename_i hc
          rcases h2 i (by omega) hc.1 with e | e
          · omega
          · show f i < f k
            unfold RD at e
            omega
        · exact i1 (by omega)
      · unfold scanB
        by_cases e : i = k
        · subst e
          rw [if_pos ⟨h1, i1 (Nat.le_refl _)⟩]
        · have e3 := i2 (by omega)
          rw [if_neg (fun hc => ?_), e3]
          rw [e3] at hc
          rcases h2 i (by omega) hc.1 with e4 | e4
          · omega
          · unfold RD at e4
            have := hc.2
            omega
  exact (main n (Nat.le_refl _)).2 hk
/-- What is left sums up as what is not yet picked. -/
theorem left_sum {n m : Nat} {S : List Int} (hS : ∀ x, x ∈ S ↔ x ∈ (ordD f n).take m) : sumI (((rng n).filter fun i => !decide (i ∈ S)).map f) = sumI (((ordD f n).drop m).map f) := by
  refine sumI_perm (List.Perm.map f ?_)
  refine ((ordD_perm f n).symm.filter _).trans ?_
  have hnd := ordD_nodup f n
  conv => lhs; rw [← List.take_append_drop m (ordD f n)]
  rw [← List.take_append_drop m (ordD f n), List.nodup_append] at hnd
  rw [List.filter_append]
  rw [List.filter_eq_nil_iff.2 (fun a ha => by simp [(hS a).2 ha]), List.filter_eq_self.2 (fun a ha => ?_), List.nil_append]
  have : a ∉ S := fun h => hnd.2.2 a ((hS a).1 h) a ha rfl
  simp [this]
/-- How many are picked. -/
def needD (g : Int) : Int → List Int → Nat
  | _, [] => 0
  | s, a :: r => if g < gr s then needD g (s - f a) r + 1 else 0
theorem need_step {g s0 s : Int} {l : List Int} {q : Nat} {a : Int} (h : needD f g s0 l = q + needD f g s (l.drop q)) (ha : l[q]? = some a) : (g < gr s → needD f g s0 l = (q + 1) + needD f g (s - f a) (l.drop (q + 1))) ∧ (¬ g < gr s → needD f g s0 l = q) := by
  obtain ⟨hq, rfl⟩ := List.getElem?_eq_some_iff.1 ha
  rw [List.drop_eq_getElem_cons hq, show needD f g s (l[q] :: l.drop (q + 1)) = if g < gr s then needD f g (s - f l[q]) (l.drop (q + 1)) + 1 else 0 from rfl] at h
  refine ⟨fun hg => ?_, fun hg => ?_⟩
  · rw [if_pos hg] at h; rw [h]; omega
  · rw [if_neg hg] at h; exact h
end
/-- The picked ones, in ascending order. -/
def putL (l : List Int) : List Int := l.foldl PU.Put.put []
theorem putL_snoc (l : List Int) (a : Int) : putL (l ++ [a]) = PU.Put.put (putL l) a := by unfold putL; rw [List.foldl_append]; rfl
theorem putL_mem (l : List Int) (x : Int) : x ∈ putL l ↔ x ∈ l := by
  refine snoc_ind (p := fun l => x ∈ putL l ↔ x ∈ l) (by simp [putL]) (fun l a ih => ?_) l
  rw [putL_snoc, PU.put_mem, ih, List.mem_append, List.mem_singleton, or_comm]
theorem putL_len (l : List Int) : (putL l).length = l.length := by
  refine snoc_ind (p := fun l => (putL l).length = l.length) rfl (fun l a ih => ?_) l
  rw [putL_snoc, PU.put_len, ih]; simp
theorem putL_asc (l : List Int) (h : l.Nodup) : (putL l).Pairwise (fun a b => a < b) := by
  revert h
  refine snoc_ind (p := fun l => l.Nodup → (putL l).Pairwise (fun a b => a < b)) (fun _ => List.Pairwise.nil) (fun l a ih hn => ?_) l
  rw [List.nodup_append] at hn
  rw [putL_snoc]
  refine PU.put_asc a _ (ih hn.1) (fun hm => ?_)
  exact hn.2.2 a ((putL_mem l a).1 hm) a List.mem_cons_self rfl
theorem sortI_putL (l : List Int) (h : l.Nodup) : sortI l = putL l := by
  have hp : (sortI l).Perm l := List.mergeSort_perm _ _
  refine PU.asc_ext ?_ (putL_asc l h) (fun x => by rw [putL_mem]; exact hp.mem_iff)
  have h1 : (sortI l).Pairwise (fun a b => a ≤ b) := by
    have := List.pairwise_mergeSort (le := fun a b : Int => decide (a ≤ b)) (fun a b c => by simp; omega) (fun a b => by simp; omega) l
    exact this.imp (fun hab => by simpa using hab)
  have h2 : (sortI l).Nodup := hp.nodup_iff.2 h
  exact (List.Pairwise.and h1 h2).imp (fun hab => by have := hab.1; have := hab.2; omega)
end FW
end Go.Proofs.Ytkglpfdoefdhdaa.WK

