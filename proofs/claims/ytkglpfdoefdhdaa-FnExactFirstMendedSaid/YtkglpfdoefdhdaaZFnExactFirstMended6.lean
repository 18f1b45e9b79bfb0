import Derived.Lib.SlicesCompact
import Derived.KernelRfl
import Derived.Shelf.SlGeneric
import Derived.Ground.SlgnProg
import Derived.Test.YtkglpfdoefdhdaaZFnExactFirstMended5
namespace Go.Proofs.Ytkglpfdoefdhdaa.Q
open Go.RowKit Go.Proofs.YtkglpfdoefdhdaaW.PrintWords Go.Proofs.YtkglpfdoefdhdaaW.PrintLast Go.Proofs.YtkglpfdoefdhdaaW.PrintMore
attribute [local go_sem] max2_int min2_int max_two min_two max_three min_three max_four min_four
set_option linter.unusedVariables false
set_option linter.unusedSimpArgs false

/-! ### impl_AreHoles: function 63 -/
abbrev D0_63 : Array Bool := #[false, false, false, false, false, false, false, false, false, false, false, false, false, false, false, false, false, false, false, false]
abbrev D1_63 : Array Bool := #[true, false, false, false, false, false, false, false, false, false, false, false, false, false, false, false, false, false, false, false]
abbrev D2_63 : Array Bool := #[true, true, false, false, false, false, false, false, false, false, false, false, false, false, false, false, false, false, false, false]
abbrev D3_63 : Array Bool := #[true, true, true, false, false, false, false, false, false, false, false, false, false, false, false, false, false, false, false, false]
abbrev D4_63 : Array Bool := #[true, true, true, true, false, false, false, false, false, false, false, false, false, false, false, false, false, false, false, false]
abbrev D5_63 : Array Bool := #[true, true, true, true, true, false, false, false, false, false, false, false, false, false, false, false, false, false, false, false]
abbrev D6_63 : Array Bool := #[true, true, true, true, true, true, false, false, false, false, false, false, false, false, false, false, false, false, false, false]
abbrev D7_63 : Array Bool := #[true, true, true, true, true, true, true, false, false, false, false, false, false, false, false, false, false, false, false, false]
abbrev D8_63 : Array Bool := #[true, true, true, true, true, true, true, true, false, false, false, false, false, false, false, false, false, false, false, false]
abbrev D9_63 : Array Bool := #[true, true, true, true, true, true, true, true, true, false, false, false, false, false, false, false, false, false, false, false]
abbrev D10_63 : Array Bool := #[true, true, true, true, true, true, true, true, true, true, false, false, false, false, false, false, false, false, false, false]
abbrev D11_63 : Array Bool := #[true, true, true, true, true, true, true, true, true, true, true, false, false, false, false, false, false, false, false, false]
abbrev D12_63 : Array Bool := #[true, true, true, true, true, true, true, true, true, true, true, true, false, false, false, false, false, false, false, false]
abbrev D13_63 : Array Bool := #[true, true, true, true, true, true, true, true, true, true, true, true, true, false, false, false, false, false, false, false]
abbrev D14_63 : Array Bool := #[true, true, true, true, true, true, true, true, true, true, true, true, true, true, false, false, false, false, false, false]
abbrev D15_63 : Array Bool := #[true, true, true, true, true, true, true, true, true, true, true, true, true, true, true, false, false, false, false, false]
abbrev D16_63 : Array Bool := #[true, true, true, true, true, true, true, true, true, true, true, true, true, true, true, true, false, false, false, false]
abbrev D17_63 : Array Bool := #[true, true, true, true, true, true, true, true, true, true, true, true, true, true, true, true, true, false, false, false]
abbrev D18_63 : Array Bool := #[true, true, true, true, true, true, true, true, true, true, true, true, true, true, true, true, true, true, false, false]
abbrev D19_63 : Array Bool := #[true, true, true, true, true, true, true, true, true, true, true, true, true, true, true, true, true, true, true, false]
abbrev D20_63 : Array Bool := #[true, true, true, true, true, true, true, true, true, true, true, true, true, true, true, true, true, true, true, true]
mutual
def impl_AreHoles.j0 : Nat → List (S76) → Bool → Option (Bool)
 | 0, _, _ => none
 | k + 1, x1, x21 => if x21 = true then (some false) else (impl_AreHoles.l0 k x1 x1 (x1.length : Int) 0)
def impl_AreHoles.l0 : Nat → List (S76) → List (S76) → Int → Int → Option (Bool)
 | 0, _, _, _, _ => none
 | k + 1, x1, x22, x23, x24 => if x24 < x23 then (if 0 ≤ x24 then (if x24 < (x22.length : Int) then (if x24 > 0 then (if 0 ≤ (wrap64 (x24 - 1)) then (if (wrap64 (x24 - 1)) < (x1.length : Int) then ((impl_Hole_compare.f k ((rd_T76 x1 (wrap64 (x24 - 1))).f0) ((rd_T76 x1 (wrap64 (x24 - 1))).f1) ((rd_T76 x1 (wrap64 (x24 - 1))).f2) ((rd_T76 x1 (wrap64 (x24 - 1))).f3) ((rd_T76 x22 x24).f0) ((rd_T76 x22 x24).f1) ((rd_T76 x22 x24).f2) ((rd_T76 x22 x24).f3)).bind fun t219 => (if t219 ≥ 0 then (some false) else (if x24 ≤ (x1.length : Int) then ((impl_Hole_131__impl_Hole_meets.f (x1.take (x24 : Int).toNat) ((rd_T76 x22 x24).f0) ((rd_T76 x22 x24).f1) ((rd_T76 x22 x24).f2) ((rd_T76 x22 x24).f3)).bind fun t224 => (if t224 = true then (some false) else (impl_AreHoles.l0 k x1 x22 x23 (wrap64 (x24 + 1))))) else (none)))) else (none)) else (none)) else (if x24 ≤ (x1.length : Int) then ((impl_Hole_131__impl_Hole_meets.f (x1.take (x24 : Int).toNat) ((rd_T76 x22 x24).f0) ((rd_T76 x22 x24).f1) ((rd_T76 x22 x24).f2) ((rd_T76 x22 x24).f3)).bind fun t229 => (if t229 = true then (some false) else (impl_AreHoles.l0 k x1 x22 x23 (wrap64 (x24 + 1))))) else (none))) else (none)) else (none)) else (some true)
end
def impl_AreHoles.f (k : Nat) (a0_0 : Int) (a0_1 : Int) (l0_2 : List Int) (l1 : List (S76)) : Option (Bool) := (impl_IsChart.f a0_0 a0_1 l0_2).bind fun t214 => (if t214 = true then (if (l1.length : Int) > 8 then (impl_AreHoles.j0 k l1 true) else ((impl_Hole_129__impl_Chart_isHole.f l1 a0_0 a0_1 l0_2).bind fun t215 => (impl_AreHoles.j0 k l1 (!t215)))) else (impl_AreHoles.j0 k l1 true))
def impl_AreHoles.T6 : Bool × List (List Nat × List Nat) := (true, [([], []), ([0], [0]), ([1], [1]), ([2], [2]), ([2], [2]), ([4, 2], [2, 4]), ([3, 5, 2], [2, 3, 5]), ([6, 2], [2, 6]), ([2], [2]), ([7, 8, 2, 2], [2, 7, 8]), ([9, 2], [2, 9]), ([2, 10], [2, 10]), ([11, 9], [11]), ([12], [12]), ([12], [12]), ([13, 14, 12], [12, 13, 14]), ([12], [12]), ([16, 12], [12, 16]), ([15, 17, 12, 12], [12, 15, 17]), ([12, 18], [12, 18])])
def impl_AreHoles.B6 : List Nat := [0, 1, 3, 7, 7, 23, 63, 127, 7, 511, 1023, 2047, 4095, 8191, 8191, 32767, 8191, 73727, 262143, 524287]
theorem impl_AreHoles.tab6 : rtab .any (opsOf Try.f63 6) = impl_AreHoles.T6 := by kernel_rfl
theorem impl_AreHoles.bits6 : waitsOk impl_AreHoles.T6.2 impl_AreHoles.B6 = true := by kernel_rfl
set_option maxHeartbeats 8000000 in
set_option maxRecDepth 100000 in
theorem impl_AreHoles.calls (k : Nat) (a0_0 : Int) (a0_1 : Int) (A0_2 : Option Addr) (c0_2 : Nat) (l0_2 : List Int) (A1 : Option Addr) (c1 : Nat) (l1 : List (S76)) (r : Bool) (w : World) (hr0_2 : Kd.C (Kd.int .i64) w A0_2 l0_2.length l0_2) (hc0_2 : l0_2.length ≤ c0_2) (hr1 : Kd.C k76 w A1 l1.length l1) (hc1 : l1.length ≤ c1) (h : impl_AreHoles.f k a0_0 a0_1 l0_2 l1 = some r) :
  Calls Try.prog 63 #[.agg #[.int .i64 a0_0, .int .i64 a0_1, .slice A0_2 l0_2.length c0_2], .slice A1 l1.length c1] w fun e w' => e = .returned (.bool r) ∧ Below w.heap.size w w' := by
 have hu26 := Try.underlying26
 have hu76 := Try.underlying76
 have HR0_2 := Aside0.mk hr0_2
 have HC0_2 := Aside0.mk hc0_2
 clear hr0_2 hc0_2
 have HR1 := Aside0.mk hr1
 have HC1 := Aside0.mk hc1
 clear hr1 hc1
 have HB := Aside0.mk (Below.refl w.heap.size w)
 have H : ((impl_IsChart.f a0_0 a0_1 l0_2).bind fun t214 => (if t214 = true then (if (l1.length : Int) > 8 then (impl_AreHoles.j0 k l1 true) else ((impl_Hole_129__impl_Chart_isHole.f l1 a0_0 a0_1 l0_2).bind fun t215 => (impl_AreHoles.j0 k l1 (!t215)))) else (impl_AreHoles.j0 k l1 true))) = some r := h
 clear h
 have HC3 := Aside0.mk H
 clear H
 go_enter Try.func63, Try.ntmps63
 go_upto_region 1 with (first | ((with_reducible refine gate_dst (N := 2) rfl ?_); (try (refine gate_guard (by rfl) ?_; dsimp only)); refine box_event ?hg (N := 2) ?hd (cs := #[.int .i64 a0_0, .int .i64 a0_1, .slice A0_2 l0_2.length c0_2]) (t := 26) ?hr ?_; (case hd => rfl); (case hg => rfl); (case hr => first | (go_simp; done) | (go_simp; rfl)); intro gb213 hg w4 hbox hb; have n0_ := Aside0.mk (below_step (by repeat (first | (with_reducible first | exact HB.out | apply below_alloc | apply pw_below_drewN | apply below_drew1) | exact HB.out)) hb); have n1_ := Aside0.mk (hbox); have n2_ := Aside0.mk ((by rw [hg]; exact (below_size (by repeat (first | (with_reducible first | exact HB.out | apply below_alloc | apply pw_below_drewN | apply below_drew1) | exact HB.out))) : w.heap.size ≤ gb213)); have n3_ := Aside0.mk ((by rw [hg]; exact (below_size (by repeat (first | (with_reducible first | exact HB.out | apply below_alloc | apply pw_below_drewN | apply below_drew1) | exact HB.out))) : w.heap.size ≤ gb213)); clear HB; have HB := n0_; have BK213 := n1_; have GW213 := n2_; have GE213 := n3_; clear n0_ n1_ n2_ n3_; clear hb hbox hg))
 (try simp only [Act.put, List.setIfInBounds_toArray, List.set_cons_zero, List.set_cons_succ])
 go_cut [21] (fun v21 wc => ∃ (kq : Nat) (x21_2 : Bool), v21 = .bool x21_2 ∧ Aside0 (impl_AreHoles.j0 kq l1 x21_2 = some r) ∧ Aside0 (kq ≤ k) ∧ Aside0 (wc.heap[gb213]? = some (.cells #[.int .i64 a0_0, .int .i64 a0_1, (.slice A0_2 l0_2.length c0_2)] 26 (0, 0))) ∧ Aside0 (Below w.heap.size w wc))
 case first =>
  have H := HC3.out
  clear HC3
  replace H := Option.bind_eq_some_iff.mp H
  obtain ⟨t214, A50, H⟩ := H
  have A5 := Aside0.mk A50
  clear A50
  by_cases c6 : t214 = true
  ·subst c6
   rw [if_pos rfl] at H
   by_cases c7 : (l1.length : Int) > 8
   ·rw [if_pos c7] at H
    have c7b0 : decide (8 < (l1.length : Int)) = true := decide_eq_true c7
    have c7b1 : decide (8 < l1.length) = true := decide_eq_true (by omega)
    clear c7
    (first | rw [c7b0] | (simp only [i64_w, i32_w]; rw [c7b0]) | skip)
    have H' := Aside0.mk H
    clear H
    have hcz8_0 : w4.cell? ⟨gb213, 0, none⟩ = some (.int .i64 a0_0) := (blk_cell BK213.out 0).trans rfl
    have hcz8_1 : w4.cell? ⟨gb213, 1, none⟩ = some (.int .i64 a0_1) := (blk_cell BK213.out 1).trans rfl
    have hcz8_2 : w4.cell? ⟨gb213, 2, none⟩ = some (.slice A0_2 l0_2.length c0_2) := (blk_cell BK213.out 2).trans rfl
    have hfz8_0 := blk_frozen BK213.out 0
    have hfz8_1 := blk_frozen BK213.out 1
    have hfz8_2 := blk_frozen BK213.out 2
    go_wp2_with (first | ((with_reducible refine gate_callee (f := 104) rfl ?_); refine goesL_ (some 8) rfl rfl Try.func104 (by kernel_rfl) rfl #[.agg #[.int .i64 a0_0, .int .i64 a0_1, .slice A0_2 l0_2.length c0_2]] rfl (by (try simp only [List.map_toArray, List.map_cons, List.map_nil]); first | done | rfl | (simp only [List.length_drop, List.length_take]; rfl)) ?_; (with_reducible refine (impl_IsChart.calls a0_0 a0_1 _ _ l0_2 true _ ?side1 ?side2 A5.out).mono ?_); (case side1 => repeat (first | exact (Kd.C_below HR0_2.out HB.out) | (with_reducible refine Kd.C_alloc ?_ _) | (with_reducible refine Kd.C_drewN ?_ _) | (with_reducible refine Kd.C_drew ?_))); (case side2 => exact HC0_2.out); rintro e w9 ⟨rfl, hb⟩; refine ⟨_, rfl, ?_⟩; have n0_ := Aside0.mk (blk_below (g := gb213) (o := .cells #[.int .i64 a0_0, .int .i64 a0_1, .slice A0_2 l0_2.length c0_2] 26 (0, 0)) (by (with_reducible repeat (first | refine blk_drewN ?_ _ | refine blk_drew ?_ | refine blk_alloc ?_ _)); exact BK213.out) hb); have n1_ := Aside0.mk (below_step (by repeat (first | (with_reducible first | exact HB.out | apply below_alloc | apply pw_below_drewN | apply below_drew1 | refine below_set ?_ GE213.out) | exact HB.out)) hb); clear BK213; clear HB; have BK213 := n0_; have HB := n1_; clear n0_ n1_; (try clear hb); (try clear hb2); (try clear hk); (try clear hi)))
    go_meet
    case rel => exact ⟨_, (true), (by first | rfl | (simp; done) | (simp [*]; done)), H', ⟨by first | omega | exact Nat.le_refl _⟩, ⟨by (with_reducible repeat (first | refine blk_drewN ?_ _ | refine blk_drew ?_ | refine blk_alloc ?_ _)); exact BK213.out⟩, ⟨by repeat (first | (with_reducible first | exact HB.out | apply below_alloc | apply pw_below_drewN | apply below_drew1 | refine below_set ?_ GE213.out) | exact HB.out)⟩⟩
   ·rw [if_neg c7] at H
    have c7b0 : decide (8 < (l1.length : Int)) = false := decide_eq_false c7
    have c7b1 : decide (8 < l1.length) = false := decide_eq_false (by omega)
    clear c7
    (first | rw [c7b0] | (simp only [i64_w, i32_w]; rw [c7b0]) | skip)
    replace H := Option.bind_eq_some_iff.mp H
    obtain ⟨t215, A100, H⟩ := H
    have A10 := Aside0.mk A100
    clear A100
    have H' := Aside0.mk H
    clear H
    have hcz11_0 : w4.cell? ⟨gb213, 0, none⟩ = some (.int .i64 a0_0) := (blk_cell BK213.out 0).trans rfl
    have hcz11_1 : w4.cell? ⟨gb213, 1, none⟩ = some (.int .i64 a0_1) := (blk_cell BK213.out 1).trans rfl
    have hcz11_2 : w4.cell? ⟨gb213, 2, none⟩ = some (.slice A0_2 l0_2.length c0_2) := (blk_cell BK213.out 2).trans rfl
    have hfz11_0 := blk_frozen BK213.out 0
    have hfz11_1 := blk_frozen BK213.out 1
    have hfz11_2 := blk_frozen BK213.out 2
    go_wp2_with (first | ((with_reducible refine gate_callee (f := 104) rfl ?_); refine goesL_ (some 8) rfl rfl Try.func104 (by kernel_rfl) rfl #[.agg #[.int .i64 a0_0, .int .i64 a0_1, .slice A0_2 l0_2.length c0_2]] rfl (by (try simp only [List.map_toArray, List.map_cons, List.map_nil]); first | done | rfl | (simp only [List.length_drop, List.length_take]; rfl)) ?_; (with_reducible refine (impl_IsChart.calls a0_0 a0_1 _ _ l0_2 true _ ?side1 ?side2 A5.out).mono ?_); (case side1 => repeat (first | exact (Kd.C_below HR0_2.out HB.out) | (with_reducible refine Kd.C_alloc ?_ _) | (with_reducible refine Kd.C_drewN ?_ _) | (with_reducible refine Kd.C_drew ?_))); (case side2 => exact HC0_2.out); rintro e w12 ⟨rfl, hb⟩; refine ⟨_, rfl, ?_⟩; have n0_ := Aside0.mk (blk_below (g := gb213) (o := .cells #[.int .i64 a0_0, .int .i64 a0_1, .slice A0_2 l0_2.length c0_2] 26 (0, 0)) (by (with_reducible repeat (first | refine blk_drewN ?_ _ | refine blk_drew ?_ | refine blk_alloc ?_ _)); exact BK213.out) hb); have n1_ := Aside0.mk (below_step (by repeat (first | (with_reducible first | exact HB.out | apply below_alloc | apply pw_below_drewN | apply below_drew1 | refine below_set ?_ GE213.out) | exact HB.out)) hb); clear BK213; clear HB; have BK213 := n0_; have HB := n1_; clear n0_ n1_; (try clear hb); (try clear hb2); (try clear hk); (try clear hi); have hcz13_0 : w12.cell? ⟨gb213, 0, none⟩ = some (.int .i64 a0_0) := (blk_cell BK213.out 0).trans rfl; have hcz13_1 : w12.cell? ⟨gb213, 1, none⟩ = some (.int .i64 a0_1) := (blk_cell BK213.out 1).trans rfl; have hcz13_2 : w12.cell? ⟨gb213, 2, none⟩ = some (.slice A0_2 l0_2.length c0_2) := (blk_cell BK213.out 2).trans rfl; have hfz13_0 := blk_frozen BK213.out 0; have hfz13_1 := blk_frozen BK213.out 1; have hfz13_2 := blk_frozen BK213.out 2) | (go_at_call 129; (with_reducible refine (impl_Hole_129__impl_Chart_isHole.calls _ _ l1 a0_0 a0_1 _ _ l0_2 t215 _ ?side1 ?side2 ?side3 ?side4 A10.out).mono ?_); (case side1 => repeat (first | exact (Kd.C_below HR1.out HB.out) | (with_reducible refine Kd.C_alloc ?_ _) | (with_reducible refine Kd.C_drewN ?_ _) | (with_reducible refine Kd.C_drew ?_))); (case side2 => exact HC1.out); (case side3 => repeat (first | exact (Kd.C_below HR0_2.out HB.out) | (with_reducible refine Kd.C_alloc ?_ _) | (with_reducible refine Kd.C_drewN ?_ _) | (with_reducible refine Kd.C_drew ?_))); (case side4 => exact HC0_2.out); rintro e w14 ⟨rfl, hb⟩; have n0_ := Aside0.mk (blk_below (g := gb213) (o := .cells #[.int .i64 a0_0, .int .i64 a0_1, .slice A0_2 l0_2.length c0_2] 26 (0, 0)) (by (with_reducible repeat (first | refine blk_drewN ?_ _ | refine blk_drew ?_ | refine blk_alloc ?_ _)); exact BK213.out) hb); have n1_ := Aside0.mk (below_step (by repeat (first | (with_reducible first | exact HB.out | apply below_alloc | apply pw_below_drewN | apply below_drew1 | refine below_set ?_ GE213.out) | exact HB.out)) hb); clear BK213; clear HB; have BK213 := n0_; have HB := n1_; clear n0_ n1_; (try clear hb); (try clear hb2); (try clear hk); (try clear hi)))
    go_meet
    case rel => exact ⟨_, (!t215), (by first | rfl | (simp; done) | (simp [*]; done)), H', ⟨by first | omega | exact Nat.le_refl _⟩, ⟨by (with_reducible repeat (first | refine blk_drewN ?_ _ | refine blk_drew ?_ | refine blk_alloc ?_ _)); exact BK213.out⟩, ⟨by repeat (first | (with_reducible first | exact HB.out | apply below_alloc | apply pw_below_drewN | apply below_drew1 | refine below_set ?_ GE213.out) | exact HB.out)⟩⟩
  ·replace c6 := Bool.eq_false_iff.mpr c6
   subst c6
   rw [if_neg (show ¬ (false = true) by decide)] at H
   have H' := Aside0.mk H
   clear H
   have hcz15_0 : w4.cell? ⟨gb213, 0, none⟩ = some (.int .i64 a0_0) := (blk_cell BK213.out 0).trans rfl
   have hcz15_1 : w4.cell? ⟨gb213, 1, none⟩ = some (.int .i64 a0_1) := (blk_cell BK213.out 1).trans rfl
   have hcz15_2 : w4.cell? ⟨gb213, 2, none⟩ = some (.slice A0_2 l0_2.length c0_2) := (blk_cell BK213.out 2).trans rfl
   have hfz15_0 := blk_frozen BK213.out 0
   have hfz15_1 := blk_frozen BK213.out 1
   have hfz15_2 := blk_frozen BK213.out 2
   go_wp2_with (first | ((with_reducible refine gate_callee (f := 104) rfl ?_); refine goesL_ (some 8) rfl rfl Try.func104 (by kernel_rfl) rfl #[.agg #[.int .i64 a0_0, .int .i64 a0_1, .slice A0_2 l0_2.length c0_2]] rfl (by (try simp only [List.map_toArray, List.map_cons, List.map_nil]); first | done | rfl | (simp only [List.length_drop, List.length_take]; rfl)) ?_; (with_reducible refine (impl_IsChart.calls a0_0 a0_1 _ _ l0_2 false _ ?side1 ?side2 A5.out).mono ?_); (case side1 => repeat (first | exact (Kd.C_below HR0_2.out HB.out) | (with_reducible refine Kd.C_alloc ?_ _) | (with_reducible refine Kd.C_drewN ?_ _) | (with_reducible refine Kd.C_drew ?_))); (case side2 => exact HC0_2.out); rintro e w16 ⟨rfl, hb⟩; refine ⟨_, rfl, ?_⟩; have n0_ := Aside0.mk (blk_below (g := gb213) (o := .cells #[.int .i64 a0_0, .int .i64 a0_1, .slice A0_2 l0_2.length c0_2] 26 (0, 0)) (by (with_reducible repeat (first | refine blk_drewN ?_ _ | refine blk_drew ?_ | refine blk_alloc ?_ _)); exact BK213.out) hb); have n1_ := Aside0.mk (below_step (by repeat (first | (with_reducible first | exact HB.out | apply below_alloc | apply pw_below_drewN | apply below_drew1 | refine below_set ?_ GE213.out) | exact HB.out)) hb); clear BK213; clear HB; have BK213 := n0_; have HB := n1_; clear n0_ n1_; (try clear hb); (try clear hb2); (try clear hk); (try clear hi)))
   go_meet
   case rel => exact ⟨_, (true), (by first | rfl | (simp; done) | (simp [*]; done)), H', ⟨by first | omega | exact Nat.le_refl _⟩, ⟨by (with_reducible repeat (first | refine blk_drewN ?_ _ | refine blk_drew ?_ | refine blk_alloc ?_ _)); exact BK213.out⟩, ⟨by repeat (first | (with_reducible first | exact HB.out | apply below_alloc | apply pw_below_drewN | apply below_drew1 | refine below_set ?_ GE213.out) | exact HB.out)⟩⟩
 case rest =>
  clear HC3
  try clear c1
  try clear p2
  try clear c6
  try clear c7
  try clear c7b0
  try clear c7b1
  try clear c10
  try clear hcz11_0
  try clear hcz11_1
  try clear hcz11_2
  try clear hcz13_0
  try clear hcz13_1
  try clear hcz13_2
  try clear hcz15_0
  try clear hcz15_1
  try clear hcz15_2
  try clear hcz8_0
  try clear hcz8_1
  try clear hcz8_2
  try clear hfz11_0
  try clear hfz11_1
  try clear hfz11_2
  try clear hfz13_0
  try clear hfz13_1
  try clear hfz13_2
  try clear hfz15_0
  try clear hfz15_1
  try clear hfz15_2
  try clear hfz8_0
  try clear hfz8_1
  try clear hfz8_2
  obtain ⟨kq, x21_2, rfl, HA, HJ2, BK213, HB⟩ := hcut
  cases kq with
  | zero => exact absurd HA.out (by simp [impl_AreHoles.j0])
  | succ kj2 =>
   have H := HA.out
   clear HA
   simp only [impl_AreHoles.j0] at H
   by_cases c17 : x21_2 = true
   ·subst c17
    rw [if_pos rfl] at H
    obtain rfl := Option.some.inj H
    go_wp2
    go_ret
    exact ⟨by first | rfl | (simp [errW_none, errW_some] <;> rfl) | (simp [*, errW_none, errW_some] <;> rfl) | (simp [wrap64]; done), by repeat (first | (with_reducible first | exact HB.out | apply below_alloc | apply pw_below_drewN | apply below_drew1 | refine below_set ?_ GE213.out) | exact HB.out)⟩
   ·replace c17 := Bool.eq_false_iff.mpr c17
    subst c17
    rw [if_neg (show ¬ (false = true) by decide)] at H
    have H' := Aside0.mk H
    clear H
    go_wp2
    go_loopg [24] kj2 (fun kq v24 w' => ∃ (x24_2 : Int), v24 = .int .i64 x24_2 ∧ Aside0 (impl_AreHoles.l0 kq l1 l1 (l1.length : Int) x24_2 = some r) ∧ Aside0 (kq ≤ kj2) ∧ Aside0 (w'.heap[gb213]? = some (.cells #[.int .i64 a0_0, .int .i64 a0_1, (.slice A0_2 l0_2.length c0_2)] 26 (0, 0))) ∧ Aside0 (Below w.heap.size w w'))
    case atStart => exact ⟨(0), (by first | rfl | (simp; done) | (simp [*]; done)), H', ⟨Nat.le_refl _⟩, ⟨by (with_reducible repeat (first | refine blk_drewN ?_ _ | refine blk_drew ?_ | refine blk_alloc ?_ _)); exact BK213.out⟩, ⟨by repeat (first | (with_reducible first | exact HB.out | apply below_alloc | apply pw_below_drewN | apply below_drew1 | refine below_set ?_ GE213.out) | exact HB.out)⟩⟩
    case round =>
     clear H'
     try clear c1
     try clear p2
     try clear c6
     try clear p6
     try clear c7
     try clear c7b0
     try clear c7b1
     try clear c10
     try clear c17
     try clear hcz11_0
     try clear hcz11_1
     try clear hcz11_2
     try clear hcz13_0
     try clear hcz13_1
     try clear hcz13_2
     try clear hcz15_0
     try clear hcz15_1
     try clear hcz15_2
     try clear hcz8_0
     try clear hcz8_1
     try clear hcz8_2
     try clear hfz11_0
     try clear hfz11_1
     try clear hfz11_2
     try clear hfz13_0
     try clear hfz13_1
     try clear hfz13_2
     try clear hfz15_0
     try clear hfz15_1
     try clear hfz15_2
     try clear hfz8_0
     try clear hfz8_1
     try clear hfz8_2
     try clear p2
     obtain ⟨x24_2, rfl, HA, HK2, BK213, HB⟩ := hrel
     cases gk with
     | zero => exact absurd HA.out (by simp [impl_AreHoles.l0])
     | succ k2 =>
      have H := HA.out
      clear HA
      simp only [impl_AreHoles.l0] at H
      by_cases c18 : x24_2 < (l1.length : Int)
      ·rw [if_pos c18] at H
       have c18b0 : decide (x24_2 < (l1.length : Int)) = true := decide_eq_true c18
       clear c18
       by_cases c19 : 0 ≤ x24_2
       ·rw [if_pos c19] at H
        have c19b0 : decide (0 ≤ x24_2) = true := decide_eq_true c19
        clear c19
        by_cases c20 : x24_2 < (l1.length : Int)
        ·rw [if_pos c20] at H
         have c20b0 : decide (x24_2 < (l1.length : Int)) = true := decide_eq_true c20
         clear c20
         by_cases c21 : x24_2 > 0
         ·rw [if_pos c21] at H
          have c21b0 : decide (0 < x24_2) = true := decide_eq_true c21
          clear c21
          obtain ⟨ji22, hji22⟩ : ∃ j_ : Int, (wrap64 (x24_2 - 1)) = j_ := ⟨_, rfl⟩
          replace H : (if 0 ≤ (ji22) then (if (ji22) < (l1.length : Int) then ((impl_Hole_compare.f k2 ((rd_T76 l1 (ji22)).f0) ((rd_T76 l1 (ji22)).f1) ((rd_T76 l1 (ji22)).f2) ((rd_T76 l1 (ji22)).f3) ((rd_T76 l1 x24_2).f0) ((rd_T76 l1 x24_2).f1) ((rd_T76 l1 x24_2).f2) ((rd_T76 l1 x24_2).f3)).bind fun t219 => (if t219 ≥ 0 then (some false) else (if x24_2 ≤ (l1.length : Int) then ((impl_Hole_131__impl_Hole_meets.f (l1.take (x24_2 : Int).toNat) ((rd_T76 l1 x24_2).f0) ((rd_T76 l1 x24_2).f1) ((rd_T76 l1 x24_2).f2) ((rd_T76 l1 x24_2).f3)).bind fun t224 => (if t224 = true then (some false) else (impl_AreHoles.l0 k2 l1 l1 (l1.length : Int) (wrap64 (x24_2 + 1))))) else (none)))) else (none)) else (none)) = some r := by first | (rw [hji22] at H; exact H) | (simp only [hji22] at H ⊢; exact H)
          have hji22w : (IntKind.i64.wrap (x24_2 - 1)) = ji22 := (i64_w _).trans hji22
          by_cases c23 : 0 ≤ (ji22)
          ·rw [if_pos c23] at H
           have c23b0 : decide (0 ≤ (ji22)) = true := decide_eq_true c23
           clear c23
           by_cases c24 : (ji22) < (l1.length : Int)
           ·rw [if_pos c24] at H
            have c24b0 : decide ((ji22) < (l1.length : Int)) = true := decide_eq_true c24
            clear c24
            replace H := Option.bind_eq_some_iff.mp H
            obtain ⟨t219, A250, H⟩ := H
            have A25 := Aside0.mk A250
            clear A250
            by_cases c26 : t219 ≥ 0
            ·rw [if_pos c26] at H
             have c26b0 : decide (0 ≤ t219) = true := decide_eq_true c26
             clear c26
             obtain rfl := Option.some.inj H
             have p216 : 0 ≤ (x24_2 : Int) := of_decide_eq_true (by first | (with_reducible assumption) | assumption)
             have q216 : x24_2 < (l1.length : Int) := of_decide_eq_true (by first | (with_reducible assumption) | assumption)
             obtain ⟨ad216, e216, hx216_0, hx216_1, hx216_2, hx216_3⟩ := at_T76 HR1.out x24_2 p216 q216
             cases e216
             replace hx216_0 := (HB.out.cell (World.block_lt_of_cell? w _ hx216_0)).trans hx216_0
             replace hx216_1 := (HB.out.cell (World.block_lt_of_cell? w _ hx216_1)).trans hx216_1
             replace hx216_2 := (HB.out.cell (World.block_lt_of_cell? w _ hx216_2)).trans hx216_2
             replace hx216_3 := (HB.out.cell (World.block_lt_of_cell? w _ hx216_3)).trans hx216_3
             replace p216 := eq_true p216
             replace q216 := eq_true q216
             try go_wp2_with (first | ((with_reducible refine gate_dst (N := 6) rfl ?_); (try (refine gate_guard (by rfl) ?_; dsimp only)); refine box_event ?hg (N := 6) ?hd (cs := #[.int .i64 0, .int .i64 0, .int .i64 0, .int .i64 0]) (t := 76) ?hr ?_; (case hd => rfl); (case hg => rfl); (case hr => first | (go_simp; done) | (go_simp; rfl)); intro gb217 hg w27 hbox hb; have n0_ := Aside0.mk (blk_below (g := gb213) (o := .cells #[.int .i64 a0_0, .int .i64 a0_1, .slice A0_2 l0_2.length c0_2] 26 (0, 0)) (by (with_reducible repeat (first | refine blk_drewN ?_ _ | refine blk_drew ?_ | refine blk_alloc ?_ _)); exact BK213.out) hb); have n1_ := Aside0.mk (below_step (by repeat (first | (with_reducible first | exact HB.out | apply below_alloc | apply pw_below_drewN | apply below_drew1 | refine below_set ?_ GE213.out) | exact HB.out)) hb); have n2_ := Aside0.mk (hbox); have n3_ := Aside0.mk ((by rw [hg]; exact (below_size (by repeat (first | (with_reducible first | exact HB.out | apply below_alloc | apply pw_below_drewN | apply below_drew1 | refine below_set ?_ GE213.out) | exact HB.out))) : w.heap.size ≤ gb217)); have n4_ := Aside0.mk ((by rw [hg]; exact (below_size (by repeat (first | (with_reducible first | exact HB.out | apply below_alloc | apply pw_below_drewN | apply below_drew1 | refine below_set ?_ GE213.out) | exact HB.out))) : w.heap.size ≤ gb217)); have n5_ := Aside0.mk ((by rw [hg]; exact Nat.ne_of_lt (blk_lt (g := gb213) (o := .cells #[.int .i64 a0_0, .int .i64 a0_1, .slice A0_2 l0_2.length c0_2] 26 (0, 0)) (by (with_reducible repeat (first | refine blk_drewN ?_ _ | refine blk_drew ?_ | refine blk_alloc ?_ _)); exact BK213.out)) : gb213 ≠ gb217)); have n6_ := Aside0.mk ((by rw [hg]; exact Nat.ne_of_gt (blk_lt (g := gb213) (o := .cells #[.int .i64 a0_0, .int .i64 a0_1, .slice A0_2 l0_2.length c0_2] 26 (0, 0)) (by (with_reducible repeat (first | refine blk_drewN ?_ _ | refine blk_drew ?_ | refine blk_alloc ?_ _)); exact BK213.out)) : gb217 ≠ gb213)); clear BK213; clear HB; have BK213 := n0_; have HB := n1_; have BK217 := n2_; have GW217 := n3_; have GE217 := n4_; have NB213_217 := n5_; have NB217_213 := n6_; clear n0_ n1_ n2_ n3_ n4_ n5_ n6_; clear hb hbox hg; have hnb28 := NB217_213.out; have hnc28 := NB213_217.out; have hcz29_0 : w27.cell? ⟨gb217, 0, none⟩ = some (.int .i64 0) := (blk_cell BK217.out 0).trans rfl; have hcz29_1 : w27.cell? ⟨gb217, 1, none⟩ = some (.int .i64 0) := (blk_cell BK217.out 1).trans rfl; have hcz29_2 : w27.cell? ⟨gb217, 2, none⟩ = some (.int .i64 0) := (blk_cell BK217.out 2).trans rfl; have hcz29_3 : w27.cell? ⟨gb217, 3, none⟩ = some (.int .i64 0) := (blk_cell BK217.out 3).trans rfl; have hfz29_0 := blk_frozen BK217.out 0; have hfz29_1 := blk_frozen BK217.out 1; have hfz29_2 := blk_frozen BK217.out 2; have hfz29_3 := blk_frozen BK217.out 3))
             have n0_ : Aside0 (((((w27.setCell ⟨gb217, 0, none⟩ (.int .i64 ((rd_T76 l1 x24_2).f0))).setCell ⟨gb217, 1, none⟩ (.int .i64 ((rd_T76 l1 x24_2).f1))).setCell ⟨gb217, 2, none⟩ (.int .i64 ((rd_T76 l1 x24_2).f2))).setCell ⟨gb217, 3, none⟩ (.int .i64 ((rd_T76 l1 x24_2).f3))).heap[gb213]? = some (.cells #[.int .i64 a0_0, .int .i64 a0_1, .slice A0_2 l0_2.length c0_2] 26 (0, 0))) := ⟨by (with_reducible repeat (first | refine blk_drewN ?_ _ | refine blk_drew ?_ | refine blk_alloc ?_ _)); refine blk_far ?_ NB213_217.out _; (with_reducible repeat (first | refine blk_drewN ?_ _ | refine blk_drew ?_ | refine blk_alloc ?_ _)); refine blk_far ?_ NB213_217.out _; (with_reducible repeat (first | refine blk_drewN ?_ _ | refine blk_drew ?_ | refine blk_alloc ?_ _)); refine blk_far ?_ NB213_217.out _; (with_reducible repeat (first | refine blk_drewN ?_ _ | refine blk_drew ?_ | refine blk_alloc ?_ _)); refine blk_far ?_ NB213_217.out _; (with_reducible repeat (first | refine blk_drewN ?_ _ | refine blk_drew ?_ | refine blk_alloc ?_ _)); exact BK213.out⟩
             have n1_ : Aside0 (((((w27.setCell ⟨gb217, 0, none⟩ (.int .i64 ((rd_T76 l1 x24_2).f0))).setCell ⟨gb217, 1, none⟩ (.int .i64 ((rd_T76 l1 x24_2).f1))).setCell ⟨gb217, 2, none⟩ (.int .i64 ((rd_T76 l1 x24_2).f2))).setCell ⟨gb217, 3, none⟩ (.int .i64 ((rd_T76 l1 x24_2).f3))).heap[gb217]? = some (.cells #[.int .i64 ((rd_T76 l1 x24_2).f0), .int .i64 ((rd_T76 l1 x24_2).f1), .int .i64 ((rd_T76 l1 x24_2).f2), .int .i64 ((rd_T76 l1 x24_2).f3)] 76 (0, 0))) := ⟨by (with_reducible repeat (first | refine blk_drewN ?_ _ | refine blk_drew ?_ | refine blk_alloc ?_ _)); refine blk_put (cs := #[.int .i64 ((rd_T76 l1 x24_2).f0), .int .i64 ((rd_T76 l1 x24_2).f1), .int .i64 ((rd_T76 l1 x24_2).f2), .int .i64 0]) ?_ 3 _ rfl; (with_reducible repeat (first | refine blk_drewN ?_ _ | refine blk_drew ?_ | refine blk_alloc ?_ _)); refine blk_put (cs := #[.int .i64 ((rd_T76 l1 x24_2).f0), .int .i64 ((rd_T76 l1 x24_2).f1), .int .i64 0, .int .i64 0]) ?_ 2 _ rfl; (with_reducible repeat (first | refine blk_drewN ?_ _ | refine blk_drew ?_ | refine blk_alloc ?_ _)); refine blk_put (cs := #[.int .i64 ((rd_T76 l1 x24_2).f0), .int .i64 0, .int .i64 0, .int .i64 0]) ?_ 1 _ rfl; (with_reducible repeat (first | refine blk_drewN ?_ _ | refine blk_drew ?_ | refine blk_alloc ?_ _)); refine blk_put (cs := #[.int .i64 0, .int .i64 0, .int .i64 0, .int .i64 0]) ?_ 0 _ rfl; (with_reducible repeat (first | refine blk_drewN ?_ _ | refine blk_drew ?_ | refine blk_alloc ?_ _)); exact BK217.out⟩
             have n2_ : Aside0 (Below w.heap.size w ((((w27.setCell ⟨gb217, 0, none⟩ (.int .i64 ((rd_T76 l1 x24_2).f0))).setCell ⟨gb217, 1, none⟩ (.int .i64 ((rd_T76 l1 x24_2).f1))).setCell ⟨gb217, 2, none⟩ (.int .i64 ((rd_T76 l1 x24_2).f2))).setCell ⟨gb217, 3, none⟩ (.int .i64 ((rd_T76 l1 x24_2).f3)))) := ⟨by repeat (first | (with_reducible first | exact HB.out | apply below_alloc | apply pw_below_drewN | apply below_drew1 | refine below_set ?_ GE213.out | refine below_set ?_ GE217.out) | exact HB.out)⟩
             (try clear BK213)
             (try clear BK217)
             (try clear HB)
             generalize ((((w27.setCell ⟨gb217, 0, none⟩ (.int .i64 ((rd_T76 l1 x24_2).f0))).setCell ⟨gb217, 1, none⟩ (.int .i64 ((rd_T76 l1 x24_2).f1))).setCell ⟨gb217, 2, none⟩ (.int .i64 ((rd_T76 l1 x24_2).f2))).setCell ⟨gb217, 3, none⟩ (.int .i64 ((rd_T76 l1 x24_2).f3))) = w30 at n0_ n1_ n2_ ⊢
             have BK213 := n0_
             have BK217 := n1_
             have HB := n2_
             clear n0_ n1_ n2_
             have n0_ := Aside0.mk (blk_drew BK213.out)
             have n1_ := Aside0.mk (blk_drew BK217.out)
             have n2_ := Aside0.mk (below_drew1 HB.out)
             clear BK213
             clear BK217
             clear HB
             have BK213 := n0_
             have BK217 := n1_
             have HB := n2_
             clear n0_ n1_ n2_
             have p218 : 0 ≤ ((ji22) : Int) := of_decide_eq_true (by first | (with_reducible assumption) | assumption)
             have q218 : (ji22) < (l1.length : Int) := of_decide_eq_true (by first | (with_reducible assumption) | assumption)
             obtain ⟨ad218, e218, hx218_0, hx218_1, hx218_2, hx218_3⟩ := at_T76 HR1.out (ji22) p218 q218
             have hw218_3 := hx218_3
             have hw218_2 := hx218_2
             have hw218_1 := hx218_1
             have hw218_0 := hx218_0
             obtain rfl : ad216 = ad218 := (by injection e218)
             replace hx218_0 := (HB.out.cell (World.block_lt_of_cell? w _ hx218_0)).trans hx218_0
             replace hx218_1 := (HB.out.cell (World.block_lt_of_cell? w _ hx218_1)).trans hx218_1
             replace hx218_2 := (HB.out.cell (World.block_lt_of_cell? w _ hx218_2)).trans hx218_2
             replace hx218_3 := (HB.out.cell (World.block_lt_of_cell? w _ hx218_3)).trans hx218_3
             replace p218 := eq_true p218
             replace q218 := eq_true q218
             refine start_ (n := 20) (S := fun w' => w'.cell? ⟨gb217, 0, none⟩ = some (.int .i64 ((rd_T76 l1 x24_2).f0)) ∧ w'.cell? ⟨gb217, 1, none⟩ = some (.int .i64 ((rd_T76 l1 x24_2).f1)) ∧ w'.cell? ⟨gb217, 2, none⟩ = some (.int .i64 ((rd_T76 l1 x24_2).f2)) ∧ w'.cell? ⟨gb217, 3, none⟩ = some (.int .i64 ((rd_T76 l1 x24_2).f3)) ∧ w'.cell? (ad216.add (((ji22)).toNat * 4)) = some (.int .i64 ((rd_T76 l1 (ji22)).f0)) ∧ w'.cell? ⟨(ad216.add (((ji22)).toNat * 4)).block, (ad216.add (((ji22)).toNat * 4)).off + 1, none⟩ = some (.int .i64 ((rd_T76 l1 (ji22)).f1)) ∧ w'.cell? ⟨(ad216.add (((ji22)).toNat * 4)).block, (ad216.add (((ji22)).toNat * 4)).off + 2, none⟩ = some (.int .i64 ((rd_T76 l1 (ji22)).f2)) ∧ w'.cell? ⟨(ad216.add (((ji22)).toNat * 4)).block, (ad216.add (((ji22)).toNat * 4)).off + 3, none⟩ = some (.int .i64 ((rd_T76 l1 (ji22)).f3))) (ds := []) D0_63 (by kernel_rfl) rfl rfl ⟨(blk_cell BK217.out 0).trans rfl, (blk_cell BK217.out 1).trans rfl, (blk_cell BK217.out 2).trans rfl, (blk_cell BK217.out 3).trans rfl, ((HB.out.cell (World.block_lt_of_cell? w _ hw218_0)).trans hw218_0), ((HB.out.cell (World.block_lt_of_cell? w _ hw218_1)).trans hw218_1), ((HB.out.cell (World.block_lt_of_cell? w _ hw218_2)).trans hw218_2), ((HB.out.cell (World.block_lt_of_cell? w _ hw218_3)).trans hw218_3)⟩ (fun hHeld => ?_); refine with_tabW impl_AreHoles.tab6 impl_AreHoles.bits6 (fun HT_ HW_ => ?_)
             generalize w30.drew = w31 at BK213 BK217 HB hx218_0 hx218_1 hx218_2 hx218_3 hHeld ⊢
             refine pure_ (i := 0) (N := some 29) (v := ?_) (a' := ?_) D1_63 rfl rfl (any_of HT_.out (by kernel_rfl)) (fun _ _ _ h => h) (Or.inl ⟨by rfl, ?_⟩) ?_ ?_
             rotate_left
             ·intro w'
              go_simp
              with_reducible rfl
             rotate_left
             ·simp only [Act.put, sS_, sZ_, sC_, i64_w, i32_w]
              rfl
             refine pure_ (i := 1) (N := some 30) (v := ?_) (a' := ?_) D2_63 rfl rfl (any_of HT_.out (by kernel_rfl)) (fun _ _ _ h => h) (Or.inl ⟨by rfl, ?_⟩) ?_ ?_
             rotate_left
             ·intro w'
              go_simp
              with_reducible rfl
             rotate_left
             ·simp only [Act.put, sS_, sZ_, sC_, i64_w, i32_w]
              rfl
             refine pure_ (i := 2) (N := some 31) (v := ?_) (a' := ?_) D3_63 rfl rfl (any_of HT_.out (by kernel_rfl)) (fun _ _ _ h => h) (Or.inl ⟨by rfl, ?_⟩) ?_ ?_
             rotate_left
             ·intro w'
              go_simp
              with_reducible rfl
             rotate_left
             ·simp only [Act.put, sS_, sZ_, sC_, i64_w, i32_w]
              rfl
             refine pure_ (i := 3) (N := some 32) (v := ?_) (a' := ?_) D4_63 rfl rfl (any_of HT_.out (by kernel_rfl)) (fun _ _ _ h => h) (Or.inl ⟨by rfl, ?_⟩) ?_ ?_
             rotate_left
             ·intro w'
              go_simp
              with_reducible rfl
             rotate_left
             ·simp only [Act.put, sS_, sZ_, sC_, i64_w, i32_w]
              rfl
             refine pure_ (i := 4) (N := some 33) (v := ?_) (a' := ?_) D5_63 rfl rfl (any_of HT_.out (by kernel_rfl)) (fun _ _ _ h => h) (Or.inl ⟨by rfl, ?_⟩) ?_ ?_
             rotate_left
             ·intro w'
              go_simp
              with_reducible rfl
             rotate_left
             ·simp only [Act.put, sS_, sZ_, sC_, i64_w, i32_w]
              rfl
             refine pure_ (i := 5) (N := some 34) (v := ?_) (a' := ?_) D6_63 rfl rfl (any_of HT_.out (by kernel_rfl)) (fun _ _ _ h => h) (Or.inl ⟨by rfl, ?_⟩) ?_ ?_
             rotate_left
             ·intro w'
              go_simp
              with_reducible rfl
             rotate_left
             ·simp only [Act.put, sS_, sZ_, sC_, i64_w, i32_w]
              rfl
             refine pure_ (i := 6) (N := some 35) (v := ?_) (a' := ?_) D7_63 rfl rfl (any_of HT_.out (by kernel_rfl)) (fun _ _ _ h => h) (Or.inl ⟨by rfl, ?_⟩) ?_ ?_
             rotate_left
             ·intro w'
              go_simp
              with_reducible rfl
             rotate_left
             ·simp only [Act.put, sS_, sZ_, sC_, i64_w, i32_w]
              rfl
             refine take_ (i := 7) (N := some 36) (v := ?_) (a' := ?_) D8_63 rfl rfl (take_ofW HT_.out HW_.out (by kernel_rfl)) (fun _ _ _ h => h) (Or.inl ⟨by rfl, ?_⟩) hHeld ?_ ?_
             rotate_left
             ·rintro w' ⟨s0, s1, s2, s3, s4, s5, s6, s7⟩
              go_simp
              with_reducible rfl
             rotate_left
             ·simp only [Act.put, sS_, sZ_, sC_, i64_w, i32_w]
              rfl
             refine take_ (i := 8) (N := some 37) (v := ?_) (a' := ?_) D9_63 rfl rfl (take_ofW HT_.out HW_.out (by kernel_rfl)) (fun _ _ _ h => h) (Or.inl ⟨by rfl, ?_⟩) hHeld ?_ ?_
             rotate_left
             ·rintro w' ⟨s0, s1, s2, s3, s4, s5, s6, s7⟩
              go_simp
              with_reducible rfl
             rotate_left
             ·simp only [Act.put, sS_, sZ_, sC_, i64_w, i32_w]
              rfl
             refine one_ (i := 9) (N := some 38) D10_63 rfl rfl (one_of HT_.out (by kernel_rfl)) (by decide) (fun K hK => ?_)
             refine goes_ Try.func117 (by kernel_rfl) rfl #[.agg #[.int .i64 ((rd_T76 l1 (ji22)).f0), .int .i64 ((rd_T76 l1 (ji22)).f1), .int .i64 ((rd_T76 l1 (ji22)).f2), .int .i64 ((rd_T76 l1 (ji22)).f3)], .agg #[.int .i64 ((rd_T76 l1 x24_2).f0), .int .i64 ((rd_T76 l1 x24_2).f1), .int .i64 ((rd_T76 l1 x24_2).f2), .int .i64 ((rd_T76 l1 x24_2).f3)]] (by rfl) rfl rfl (by (try simp only [List.map_toArray, List.map_cons, List.map_nil]); first | done | (simp only [hji22]; rfl) | rfl | (simp only [List.length_drop, List.length_take]; rfl)) ?_
             with_reducible refine (impl_Hole_compare.calls k2 ((rd_T76 l1 (ji22)).f0) ((rd_T76 l1 (ji22)).f1) ((rd_T76 l1 (ji22)).f2) ((rd_T76 l1 (ji22)).f3) ((rd_T76 l1 x24_2).f0) ((rd_T76 l1 x24_2).f1) ((rd_T76 l1 x24_2).f2) ((rd_T76 l1 x24_2).f3) t219 _ A25.out).mono ?_
             rintro e w32 ⟨rfl, hb⟩
             refine ⟨_, rfl, ?_⟩
             have n0_ := Aside0.mk (blk_below (g := gb213) (o := .cells #[.int .i64 a0_0, .int .i64 a0_1, .slice A0_2 l0_2.length c0_2] 26 (0, 0)) (by (with_reducible repeat (first | refine blk_drewN ?_ _ | refine blk_drew ?_ | refine blk_alloc ?_ _)); exact BK213.out) hb)
             have n1_ := Aside0.mk (blk_below (g := gb217) (o := .cells #[.int .i64 ((rd_T76 l1 x24_2).f0), .int .i64 ((rd_T76 l1 x24_2).f1), .int .i64 ((rd_T76 l1 x24_2).f2), .int .i64 ((rd_T76 l1 x24_2).f3)] 76 (0, 0)) (by (with_reducible repeat (first | refine blk_drewN ?_ _ | refine blk_drew ?_ | refine blk_alloc ?_ _)); exact BK217.out) hb)
             have n2_ := Aside0.mk (below_step (by repeat (first | (with_reducible first | exact HB.out | apply below_alloc | apply pw_below_drewN | apply below_drew1 | refine below_set ?_ GE213.out | refine below_set ?_ GE217.out) | exact HB.out)) hb)
             clear BK213
             clear BK217
             clear HB
             have BK213 := n0_
             have BK217 := n1_
             have HB := n2_
             clear n0_ n1_ n2_
             (try clear hb)
             (try clear hb2)
             (try clear hk)
             (try clear hi)
             refine hK.out _ _ ⟨(blk_cell BK217.out 0).trans rfl, (blk_cell BK217.out 1).trans rfl, (blk_cell BK217.out 2).trans rfl, (blk_cell BK217.out 3).trans rfl, ((HB.out.cell (World.block_lt_of_cell? w _ hw218_0)).trans hw218_0), ((HB.out.cell (World.block_lt_of_cell? w _ hw218_1)).trans hw218_1), ((HB.out.cell (World.block_lt_of_cell? w _ hw218_2)).trans hw218_2), ((HB.out.cell (World.block_lt_of_cell? w _ hw218_3)).trans hw218_3)⟩ (fun hHeld => ?_)
             clear hK K
             refine norm_ (a' := ?_) ?_ ?_
             rotate_left
             ·show Act.put _ (some 38) _ = _
              simp only [Act.put, sS_, sZ_, sC_, i64_w, i32_w]
              rfl
             refine pure_ (i := 10) (N := some 39) (v := ?_) (a' := ?_) D11_63 rfl rfl (any_of HT_.out (by kernel_rfl)) (fun _ _ _ h => h) (Or.inl ⟨by rfl, ?_⟩) ?_ ?_
             rotate_left
             ·intro w'
              go_simp
              with_reducible rfl
             rotate_left
             ·simp only [Act.put, sS_, sZ_, sC_, i64_w, i32_w]
              rfl
             refine pure_ (i := 11) (N := some 40) (v := ?_) (a' := ?_) D12_63 rfl rfl (any_of HT_.out (by kernel_rfl)) (fun _ _ _ h => h) (Or.inl ⟨by rfl, ?_⟩) ?_ ?_
             rotate_left
             ·intro w'
              go_simp
              with_reducible rfl
             rotate_left
             ·simp only [Act.put, sS_, sZ_, sC_, i64_w, i32_w]
              rfl
             refine pure_ (i := 12) (N := some 41) (v := ?_) (a' := ?_) D13_63 rfl rfl (any_of HT_.out (by kernel_rfl)) (fun _ _ _ h => h) (Or.inl ⟨by rfl, ?_⟩) ?_ ?_
             rotate_left
             ·intro w'
              go_simp
              with_reducible rfl
             rotate_left
             ·simp only [Act.put, sS_, sZ_, sC_, i64_w, i32_w]
              rfl
             refine pure_ (i := 13) (N := some 42) (v := undef) (a' := ?_) D14_63 rfl rfl (any_of HT_.out (by kernel_rfl)) (fun _ _ _ h => h) (Or.inr ⟨by rfl, rfl⟩) ?_ ?_
             rotate_left
             ·simp only [Act.put, sS_, sZ_, sC_, i64_w, i32_w]
              rfl
             refine pure_ (i := 14) (N := some 43) (v := undef) (a' := ?_) D15_63 rfl rfl (any_of HT_.out (by kernel_rfl)) (fun _ _ _ h => h) (Or.inr ⟨by rfl, rfl⟩) ?_ ?_
             rotate_left
             ·simp only [Act.put, sS_, sZ_, sC_, i64_w, i32_w]
              rfl
             refine pure_ (i := 15) (N := some 44) (v := undef) (a' := ?_) D16_63 rfl rfl (any_of HT_.out (by kernel_rfl)) (fun _ _ _ h => h) (Or.inr ⟨by rfl, rfl⟩) ?_ ?_
             rotate_left
             ·simp only [Act.put, sS_, sZ_, sC_, i64_w, i32_w]
              rfl
             refine pure_ (i := 16) (N := some 45) (v := undef) (a' := ?_) D17_63 rfl rfl (any_of HT_.out (by kernel_rfl)) (fun _ _ _ h => h) (Or.inr ⟨by rfl, rfl⟩) ?_ ?_
             rotate_left
             ·simp only [Act.put, sS_, sZ_, sC_, i64_w, i32_w]
              rfl
             refine pure_ (i := 17) (N := some 46) (v := undef) (a' := ?_) D18_63 rfl rfl (any_of HT_.out (by kernel_rfl)) (fun _ _ _ h => h) (Or.inr ⟨by rfl, rfl⟩) ?_ ?_
             rotate_left
             ·simp only [Act.put, sS_, sZ_, sC_, i64_w, i32_w]
              rfl
             refine pure_ (i := 18) (N := some 47) (v := undef) (a' := ?_) D19_63 rfl rfl (any_of HT_.out (by kernel_rfl)) (fun _ _ _ h => h) (Or.inr ⟨by rfl, rfl⟩) ?_ ?_
             rotate_left
             ·simp only [Act.put, sS_, sZ_, sC_, i64_w, i32_w]
              rfl
             refine pure_ (i := 19) (N := some 48) (v := ?_) (a' := ?_) D20_63 rfl rfl (any_of HT_.out (by kernel_rfl)) (fun _ _ _ h => h) (Or.inl ⟨by rfl, ?_⟩) ?_ ?_
             rotate_left
             ·intro w'
              go_simp
              with_reducible rfl
             rotate_left
             ·simp only [Act.put, sS_, sZ_, sC_, i64_w, i32_w]
              rfl
             refine done_ (done_of HT_.out (by kernel_rfl)) ?_
             try go_wp2
             go_ret
             exact ⟨by first | rfl | (simp [errW_none, errW_some] <;> rfl) | (simp only [← hji22]; first | rfl | (simp [errW_none, errW_some] <;> rfl)) | (simp [*, errW_none, errW_some] <;> rfl) | (simp [wrap64]; done), by repeat (first | (with_reducible first | exact HB.out | apply below_alloc | apply pw_below_drewN | apply below_drew1 | refine below_set ?_ GE213.out | refine below_set ?_ GE217.out) | exact HB.out)⟩
            ·rw [if_neg c26] at H
             have c26b0 : decide (0 ≤ t219) = false := decide_eq_false c26
             clear c26
             have c33b0 := eq_true (of_decide_eq_true (by first | (with_reducible assumption) | assumption) : 0 ≤ x24_2)
             by_cases c34 : x24_2 ≤ (l1.length : Int)
             ·rw [if_pos c34] at H
              have c34b0 := eq_true c34
              have c34b1 : decide (x24_2 ≤ (l1.length : Int)) = true := decide_eq_true c34
              clear c34
              obtain ⟨y220, hy220⟩ : ∃ y_ : List (S76), y_ = (l1.take (x24_2 : Int).toNat) := ⟨_, rfl⟩
              replace H : ((impl_Hole_131__impl_Hole_meets.f y220 ((rd_T76 l1 x24_2).f0) ((rd_T76 l1 x24_2).f1) ((rd_T76 l1 x24_2).f2) ((rd_T76 l1 x24_2).f3)).bind fun t224 => (if t224 = true then (some false) else (impl_AreHoles.l0 k2 l1 l1 (l1.length : Int) (wrap64 (x24_2 + 1))))) = some r := by first | (rw [hy220]; with_reducible exact H) | (have H2_ := (Option.bind_some _ _).symm.trans H; rw [hy220]; with_reducible exact H2_) | (have H2_ := (Option.bind_some _ _).symm.trans H; with_reducible exact H2_) | with_reducible exact H | (rw [hy220]; exact H) | exact H
              have Ny220 := Aside0.mk hy220
              clear hy220
              replace H := Option.bind_eq_some_iff.mp H
              obtain ⟨t224, A350, H⟩ := H
              have A35 := Aside0.mk A350
              clear A350
              by_cases c36 : t224 = true
              ·subst c36
               rw [if_pos rfl] at H
               obtain rfl := Option.some.inj H
               have p216 : 0 ≤ (x24_2 : Int) := of_decide_eq_true (by first | (with_reducible assumption) | assumption)
               have q216 : x24_2 < (l1.length : Int) := of_decide_eq_true (by first | (with_reducible assumption) | assumption)
               obtain ⟨ad216, e216, hx216_0, hx216_1, hx216_2, hx216_3⟩ := at_T76 HR1.out x24_2 p216 q216
               cases e216
               replace hx216_0 := (HB.out.cell (World.block_lt_of_cell? w _ hx216_0)).trans hx216_0
               replace hx216_1 := (HB.out.cell (World.block_lt_of_cell? w _ hx216_1)).trans hx216_1
               replace hx216_2 := (HB.out.cell (World.block_lt_of_cell? w _ hx216_2)).trans hx216_2
               replace hx216_3 := (HB.out.cell (World.block_lt_of_cell? w _ hx216_3)).trans hx216_3
               replace p216 := eq_true p216
               replace q216 := eq_true q216
               try go_wp2_with (first | ((with_reducible refine gate_dst (N := 6) rfl ?_); (try (refine gate_guard (by rfl) ?_; dsimp only)); refine box_event ?hg (N := 6) ?hd (cs := #[.int .i64 0, .int .i64 0, .int .i64 0, .int .i64 0]) (t := 76) ?hr ?_; (case hd => rfl); (case hg => rfl); (case hr => first | (go_simp; done) | (go_simp; rfl)); intro gb217 hg w37 hbox hb; have n0_ := Aside0.mk (blk_below (g := gb213) (o := .cells #[.int .i64 a0_0, .int .i64 a0_1, .slice A0_2 l0_2.length c0_2] 26 (0, 0)) (by (with_reducible repeat (first | refine blk_drewN ?_ _ | refine blk_drew ?_ | refine blk_alloc ?_ _)); exact BK213.out) hb); have n1_ := Aside0.mk (below_step (by repeat (first | (with_reducible first | exact HB.out | apply below_alloc | apply pw_below_drewN | apply below_drew1 | refine below_set ?_ GE213.out) | exact HB.out)) hb); have n2_ := Aside0.mk (hbox); have n3_ := Aside0.mk ((by rw [hg]; exact (below_size (by repeat (first | (with_reducible first | exact HB.out | apply below_alloc | apply pw_below_drewN | apply below_drew1 | refine below_set ?_ GE213.out) | exact HB.out))) : w.heap.size ≤ gb217)); have n4_ := Aside0.mk ((by rw [hg]; exact (below_size (by repeat (first | (with_reducible first | exact HB.out | apply below_alloc | apply pw_below_drewN | apply below_drew1 | refine below_set ?_ GE213.out) | exact HB.out))) : w.heap.size ≤ gb217)); have n5_ := Aside0.mk ((by rw [hg]; exact Nat.ne_of_lt (blk_lt (g := gb213) (o := .cells #[.int .i64 a0_0, .int .i64 a0_1, .slice A0_2 l0_2.length c0_2] 26 (0, 0)) (by (with_reducible repeat (first | refine blk_drewN ?_ _ | refine blk_drew ?_ | refine blk_alloc ?_ _)); exact BK213.out)) : gb213 ≠ gb217)); have n6_ := Aside0.mk ((by rw [hg]; exact Nat.ne_of_gt (blk_lt (g := gb213) (o := .cells #[.int .i64 a0_0, .int .i64 a0_1, .slice A0_2 l0_2.length c0_2] 26 (0, 0)) (by (with_reducible repeat (first | refine blk_drewN ?_ _ | refine blk_drew ?_ | refine blk_alloc ?_ _)); exact BK213.out)) : gb217 ≠ gb213)); clear BK213; clear HB; have BK213 := n0_; have HB := n1_; have BK217 := n2_; have GW217 := n3_; have GE217 := n4_; have NB213_217 := n5_; have NB217_213 := n6_; clear n0_ n1_ n2_ n3_ n4_ n5_ n6_; clear hb hbox hg; have hnb38 := NB217_213.out; have hnc38 := NB213_217.out; have hcz39_0 : w37.cell? ⟨gb217, 0, none⟩ = some (.int .i64 0) := (blk_cell BK217.out 0).trans rfl; have hcz39_1 : w37.cell? ⟨gb217, 1, none⟩ = some (.int .i64 0) := (blk_cell BK217.out 1).trans rfl; have hcz39_2 : w37.cell? ⟨gb217, 2, none⟩ = some (.int .i64 0) := (blk_cell BK217.out 2).trans rfl; have hcz39_3 : w37.cell? ⟨gb217, 3, none⟩ = some (.int .i64 0) := (blk_cell BK217.out 3).trans rfl; have hfz39_0 := blk_frozen BK217.out 0; have hfz39_1 := blk_frozen BK217.out 1; have hfz39_2 := blk_frozen BK217.out 2; have hfz39_3 := blk_frozen BK217.out 3))
               have n0_ : Aside0 (((((w37.setCell ⟨gb217, 0, none⟩ (.int .i64 ((rd_T76 l1 x24_2).f0))).setCell ⟨gb217, 1, none⟩ (.int .i64 ((rd_T76 l1 x24_2).f1))).setCell ⟨gb217, 2, none⟩ (.int .i64 ((rd_T76 l1 x24_2).f2))).setCell ⟨gb217, 3, none⟩ (.int .i64 ((rd_T76 l1 x24_2).f3))).heap[gb213]? = some (.cells #[.int .i64 a0_0, .int .i64 a0_1, .slice A0_2 l0_2.length c0_2] 26 (0, 0))) := ⟨by (with_reducible repeat (first | refine blk_drewN ?_ _ | refine blk_drew ?_ | refine blk_alloc ?_ _)); refine blk_far ?_ NB213_217.out _; (with_reducible repeat (first | refine blk_drewN ?_ _ | refine blk_drew ?_ | refine blk_alloc ?_ _)); refine blk_far ?_ NB213_217.out _; (with_reducible repeat (first | refine blk_drewN ?_ _ | refine blk_drew ?_ | refine blk_alloc ?_ _)); refine blk_far ?_ NB213_217.out _; (with_reducible repeat (first | refine blk_drewN ?_ _ | refine blk_drew ?_ | refine blk_alloc ?_ _)); refine blk_far ?_ NB213_217.out _; (with_reducible repeat (first | refine blk_drewN ?_ _ | refine blk_drew ?_ | refine blk_alloc ?_ _)); exact BK213.out⟩
               have n1_ : Aside0 (((((w37.setCell ⟨gb217, 0, none⟩ (.int .i64 ((rd_T76 l1 x24_2).f0))).setCell ⟨gb217, 1, none⟩ (.int .i64 ((rd_T76 l1 x24_2).f1))).setCell ⟨gb217, 2, none⟩ (.int .i64 ((rd_T76 l1 x24_2).f2))).setCell ⟨gb217, 3, none⟩ (.int .i64 ((rd_T76 l1 x24_2).f3))).heap[gb217]? = some (.cells #[.int .i64 ((rd_T76 l1 x24_2).f0), .int .i64 ((rd_T76 l1 x24_2).f1), .int .i64 ((rd_T76 l1 x24_2).f2), .int .i64 ((rd_T76 l1 x24_2).f3)] 76 (0, 0))) := ⟨by (with_reducible repeat (first | refine blk_drewN ?_ _ | refine blk_drew ?_ | refine blk_alloc ?_ _)); refine blk_put (cs := #[.int .i64 ((rd_T76 l1 x24_2).f0), .int .i64 ((rd_T76 l1 x24_2).f1), .int .i64 ((rd_T76 l1 x24_2).f2), .int .i64 0]) ?_ 3 _ rfl; (with_reducible repeat (first | refine blk_drewN ?_ _ | refine blk_drew ?_ | refine blk_alloc ?_ _)); refine blk_put (cs := #[.int .i64 ((rd_T76 l1 x24_2).f0), .int .i64 ((rd_T76 l1 x24_2).f1), .int .i64 0, .int .i64 0]) ?_ 2 _ rfl; (with_reducible repeat (first | refine blk_drewN ?_ _ | refine blk_drew ?_ | refine blk_alloc ?_ _)); refine blk_put (cs := #[.int .i64 ((rd_T76 l1 x24_2).f0), .int .i64 0, .int .i64 0, .int .i64 0]) ?_ 1 _ rfl; (with_reducible repeat (first | refine blk_drewN ?_ _ | refine blk_drew ?_ | refine blk_alloc ?_ _)); refine blk_put (cs := #[.int .i64 0, .int .i64 0, .int .i64 0, .int .i64 0]) ?_ 0 _ rfl; (with_reducible repeat (first | refine blk_drewN ?_ _ | refine blk_drew ?_ | refine blk_alloc ?_ _)); exact BK217.out⟩
               have n2_ : Aside0 (Below w.heap.size w ((((w37.setCell ⟨gb217, 0, none⟩ (.int .i64 ((rd_T76 l1 x24_2).f0))).setCell ⟨gb217, 1, none⟩ (.int .i64 ((rd_T76 l1 x24_2).f1))).setCell ⟨gb217, 2, none⟩ (.int .i64 ((rd_T76 l1 x24_2).f2))).setCell ⟨gb217, 3, none⟩ (.int .i64 ((rd_T76 l1 x24_2).f3)))) := ⟨by repeat (first | (with_reducible first | exact HB.out | apply below_alloc | apply pw_below_drewN | apply below_drew1 | refine below_set ?_ GE213.out | refine below_set ?_ GE217.out) | exact HB.out)⟩
               (try clear BK213)
               (try clear BK217)
               (try clear HB)
               generalize ((((w37.setCell ⟨gb217, 0, none⟩ (.int .i64 ((rd_T76 l1 x24_2).f0))).setCell ⟨gb217, 1, none⟩ (.int .i64 ((rd_T76 l1 x24_2).f1))).setCell ⟨gb217, 2, none⟩ (.int .i64 ((rd_T76 l1 x24_2).f2))).setCell ⟨gb217, 3, none⟩ (.int .i64 ((rd_T76 l1 x24_2).f3))) = w40 at n0_ n1_ n2_ ⊢
               have BK213 := n0_
               have BK217 := n1_
               have HB := n2_
               clear n0_ n1_ n2_
               have n0_ := Aside0.mk (blk_drew BK213.out)
               have n1_ := Aside0.mk (blk_drew BK217.out)
               have n2_ := Aside0.mk (below_drew1 HB.out)
               clear BK213
               clear BK217
               clear HB
               have BK213 := n0_
               have BK217 := n1_
               have HB := n2_
               clear n0_ n1_ n2_
               have p218 : 0 ≤ ((ji22) : Int) := of_decide_eq_true (by first | (with_reducible assumption) | assumption)
               have q218 : (ji22) < (l1.length : Int) := of_decide_eq_true (by first | (with_reducible assumption) | assumption)
               obtain ⟨ad218, e218, hx218_0, hx218_1, hx218_2, hx218_3⟩ := at_T76 HR1.out (ji22) p218 q218
               have hw218_3 := hx218_3
               have hw218_2 := hx218_2
               have hw218_1 := hx218_1
               have hw218_0 := hx218_0
               obtain rfl : ad216 = ad218 := (by injection e218)
               replace hx218_0 := (HB.out.cell (World.block_lt_of_cell? w _ hx218_0)).trans hx218_0
               replace hx218_1 := (HB.out.cell (World.block_lt_of_cell? w _ hx218_1)).trans hx218_1
               replace hx218_2 := (HB.out.cell (World.block_lt_of_cell? w _ hx218_2)).trans hx218_2
               replace hx218_3 := (HB.out.cell (World.block_lt_of_cell? w _ hx218_3)).trans hx218_3
               replace p218 := eq_true p218
               replace q218 := eq_true q218
               refine start_ (n := 20) (S := fun w' => w'.cell? ⟨gb217, 0, none⟩ = some (.int .i64 ((rd_T76 l1 x24_2).f0)) ∧ w'.cell? ⟨gb217, 1, none⟩ = some (.int .i64 ((rd_T76 l1 x24_2).f1)) ∧ w'.cell? ⟨gb217, 2, none⟩ = some (.int .i64 ((rd_T76 l1 x24_2).f2)) ∧ w'.cell? ⟨gb217, 3, none⟩ = some (.int .i64 ((rd_T76 l1 x24_2).f3)) ∧ w'.cell? (ad216.add (((ji22)).toNat * 4)) = some (.int .i64 ((rd_T76 l1 (ji22)).f0)) ∧ w'.cell? ⟨(ad216.add (((ji22)).toNat * 4)).block, (ad216.add (((ji22)).toNat * 4)).off + 1, none⟩ = some (.int .i64 ((rd_T76 l1 (ji22)).f1)) ∧ w'.cell? ⟨(ad216.add (((ji22)).toNat * 4)).block, (ad216.add (((ji22)).toNat * 4)).off + 2, none⟩ = some (.int .i64 ((rd_T76 l1 (ji22)).f2)) ∧ w'.cell? ⟨(ad216.add (((ji22)).toNat * 4)).block, (ad216.add (((ji22)).toNat * 4)).off + 3, none⟩ = some (.int .i64 ((rd_T76 l1 (ji22)).f3))) (ds := []) D0_63 (by kernel_rfl) rfl rfl ⟨(blk_cell BK217.out 0).trans rfl, (blk_cell BK217.out 1).trans rfl, (blk_cell BK217.out 2).trans rfl, (blk_cell BK217.out 3).trans rfl, ((HB.out.cell (World.block_lt_of_cell? w _ hw218_0)).trans hw218_0), ((HB.out.cell (World.block_lt_of_cell? w _ hw218_1)).trans hw218_1), ((HB.out.cell (World.block_lt_of_cell? w _ hw218_2)).trans hw218_2), ((HB.out.cell (World.block_lt_of_cell? w _ hw218_3)).trans hw218_3)⟩ (fun hHeld => ?_); refine with_tabW impl_AreHoles.tab6 impl_AreHoles.bits6 (fun HT_ HW_ => ?_)
               generalize w40.drew = w41 at BK213 BK217 HB hx218_0 hx218_1 hx218_2 hx218_3 hHeld ⊢
               refine pure_ (i := 0) (N := some 29) (v := ?_) (a' := ?_) D1_63 rfl rfl (any_of HT_.out (by kernel_rfl)) (fun _ _ _ h => h) (Or.inl ⟨by rfl, ?_⟩) ?_ ?_
               rotate_left
               ·intro w'
                go_simp
                with_reducible rfl
               rotate_left
               ·simp only [Act.put, sS_, sZ_, sC_, i64_w, i32_w]
                rfl
               refine pure_ (i := 1) (N := some 30) (v := ?_) (a' := ?_) D2_63 rfl rfl (any_of HT_.out (by kernel_rfl)) (fun _ _ _ h => h) (Or.inl ⟨by rfl, ?_⟩) ?_ ?_
               rotate_left
               ·intro w'
                go_simp
                with_reducible rfl
               rotate_left
               ·simp only [Act.put, sS_, sZ_, sC_, i64_w, i32_w]
                rfl
               refine pure_ (i := 2) (N := some 31) (v := ?_) (a' := ?_) D3_63 rfl rfl (any_of HT_.out (by kernel_rfl)) (fun _ _ _ h => h) (Or.inl ⟨by rfl, ?_⟩) ?_ ?_
               rotate_left
               ·intro w'
                go_simp
                with_reducible rfl
               rotate_left
               ·simp only [Act.put, sS_, sZ_, sC_, i64_w, i32_w]
                rfl
               refine pure_ (i := 3) (N := some 32) (v := ?_) (a' := ?_) D4_63 rfl rfl (any_of HT_.out (by kernel_rfl)) (fun _ _ _ h => h) (Or.inl ⟨by rfl, ?_⟩) ?_ ?_
               rotate_left
               ·intro w'
                go_simp
                with_reducible rfl
               rotate_left
               ·simp only [Act.put, sS_, sZ_, sC_, i64_w, i32_w]
                rfl
               refine pure_ (i := 4) (N := some 33) (v := ?_) (a' := ?_) D5_63 rfl rfl (any_of HT_.out (by kernel_rfl)) (fun _ _ _ h => h) (Or.inl ⟨by rfl, ?_⟩) ?_ ?_
               rotate_left
               ·intro w'
                go_simp
                with_reducible rfl
               rotate_left
               ·simp only [Act.put, sS_, sZ_, sC_, i64_w, i32_w]
                rfl
               refine pure_ (i := 5) (N := some 34) (v := ?_) (a' := ?_) D6_63 rfl rfl (any_of HT_.out (by kernel_rfl)) (fun _ _ _ h => h) (Or.inl ⟨by rfl, ?_⟩) ?_ ?_
               rotate_left
               ·intro w'
                go_simp
                with_reducible rfl
               rotate_left
               ·simp only [Act.put, sS_, sZ_, sC_, i64_w, i32_w]
                rfl
               refine pure_ (i := 6) (N := some 35) (v := ?_) (a' := ?_) D7_63 rfl rfl (any_of HT_.out (by kernel_rfl)) (fun _ _ _ h => h) (Or.inl ⟨by rfl, ?_⟩) ?_ ?_
               rotate_left
               ·intro w'
                go_simp
                with_reducible rfl
               rotate_left
               ·simp only [Act.put, sS_, sZ_, sC_, i64_w, i32_w]
                rfl
               refine take_ (i := 7) (N := some 36) (v := ?_) (a' := ?_) D8_63 rfl rfl (take_ofW HT_.out HW_.out (by kernel_rfl)) (fun _ _ _ h => h) (Or.inl ⟨by rfl, ?_⟩) hHeld ?_ ?_
               rotate_left
               ·rintro w' ⟨s0, s1, s2, s3, s4, s5, s6, s7⟩
                go_simp
                with_reducible rfl
               rotate_left
               ·simp only [Act.put, sS_, sZ_, sC_, i64_w, i32_w]
                rfl
               refine take_ (i := 8) (N := some 37) (v := ?_) (a' := ?_) D9_63 rfl rfl (take_ofW HT_.out HW_.out (by kernel_rfl)) (fun _ _ _ h => h) (Or.inl ⟨by rfl, ?_⟩) hHeld ?_ ?_
               rotate_left
               ·rintro w' ⟨s0, s1, s2, s3, s4, s5, s6, s7⟩
                go_simp
                with_reducible rfl
               rotate_left
               ·simp only [Act.put, sS_, sZ_, sC_, i64_w, i32_w]
                rfl
               refine one_ (i := 9) (N := some 38) D10_63 rfl rfl (one_of HT_.out (by kernel_rfl)) (by decide) (fun K hK => ?_)
               refine goes_ Try.func117 (by kernel_rfl) rfl #[.agg #[.int .i64 ((rd_T76 l1 (ji22)).f0), .int .i64 ((rd_T76 l1 (ji22)).f1), .int .i64 ((rd_T76 l1 (ji22)).f2), .int .i64 ((rd_T76 l1 (ji22)).f3)], .agg #[.int .i64 ((rd_T76 l1 x24_2).f0), .int .i64 ((rd_T76 l1 x24_2).f1), .int .i64 ((rd_T76 l1 x24_2).f2), .int .i64 ((rd_T76 l1 x24_2).f3)]] (by rfl) rfl rfl (by (try simp only [List.map_toArray, List.map_cons, List.map_nil]); first | done | (simp only [hji22]; rfl) | rfl | (simp only [List.length_drop, List.length_take]; rfl)) ?_
               with_reducible refine (impl_Hole_compare.calls k2 ((rd_T76 l1 (ji22)).f0) ((rd_T76 l1 (ji22)).f1) ((rd_T76 l1 (ji22)).f2) ((rd_T76 l1 (ji22)).f3) ((rd_T76 l1 x24_2).f0) ((rd_T76 l1 x24_2).f1) ((rd_T76 l1 x24_2).f2) ((rd_T76 l1 x24_2).f3) t219 _ A25.out).mono ?_
               rintro e w42 ⟨rfl, hb⟩
               refine ⟨_, rfl, ?_⟩
               have n0_ := Aside0.mk (blk_below (g := gb213) (o := .cells #[.int .i64 a0_0, .int .i64 a0_1, .slice A0_2 l0_2.length c0_2] 26 (0, 0)) (by (with_reducible repeat (first | refine blk_drewN ?_ _ | refine blk_drew ?_ | refine blk_alloc ?_ _)); exact BK213.out) hb)
               have n1_ := Aside0.mk (blk_below (g := gb217) (o := .cells #[.int .i64 ((rd_T76 l1 x24_2).f0), .int .i64 ((rd_T76 l1 x24_2).f1), .int .i64 ((rd_T76 l1 x24_2).f2), .int .i64 ((rd_T76 l1 x24_2).f3)] 76 (0, 0)) (by (with_reducible repeat (first | refine blk_drewN ?_ _ | refine blk_drew ?_ | refine blk_alloc ?_ _)); exact BK217.out) hb)
               have n2_ := Aside0.mk (below_step (by repeat (first | (with_reducible first | exact HB.out | apply below_alloc | apply pw_below_drewN | apply below_drew1 | refine below_set ?_ GE213.out | refine below_set ?_ GE217.out) | exact HB.out)) hb)
               clear BK213
               clear BK217
               clear HB
               have BK213 := n0_
               have BK217 := n1_
               have HB := n2_
               clear n0_ n1_ n2_
               (try clear hb)
               (try clear hb2)
               (try clear hk)
               (try clear hi)
               have q43 : (x24_2 : Int) ≤ ((l1.length : Int) : Int) := of_decide_eq_true (by first | (with_reducible assumption) | assumption)
               obtain ⟨i043, hi043, _, hsz43, _⟩ := info_parts info76
               have hroom43 : l1.length ≤ c1 := HC1.out
               have hC43 : Kd.C k76 _ (some ad216) l1.length l1 := HR1.out
               have hcut43 := cut_to (P := Try.prog) 65 76 .i64 Try.underlying65 hi043 (some ad216) l1.length c1 x24_2 (of_decide_eq_true (by first | (with_reducible assumption) | assumption)) q43 hroom43
               have hr43 := Kd.C_take (m := (x24_2 : Int).toNat) hC43 (by omega)
               have hy43 : y220.length = (x24_2 : Int).toNat := (by rw [Ny220.out, List.length_take]; omega)
               rw [← Ny220.out] at hr43
               rw [← hy43] at hcut43
               have HR223 := Aside0.mk hr43
               have HC223 := Aside0.mk (show y220.length ≤ c1 from by omega)
               clear hr43 hC43 hroom43 hi043 hsz43
               have KY43 := Aside0.mk hy43
               clear hy43
               replace q43 := eq_true q43
               refine hK.out _ _ ⟨(blk_cell BK217.out 0).trans rfl, (blk_cell BK217.out 1).trans rfl, (blk_cell BK217.out 2).trans rfl, (blk_cell BK217.out 3).trans rfl, ((HB.out.cell (World.block_lt_of_cell? w _ hw218_0)).trans hw218_0), ((HB.out.cell (World.block_lt_of_cell? w _ hw218_1)).trans hw218_1), ((HB.out.cell (World.block_lt_of_cell? w _ hw218_2)).trans hw218_2), ((HB.out.cell (World.block_lt_of_cell? w _ hw218_3)).trans hw218_3)⟩ (fun hHeld => ?_)
               clear hK K
               refine norm_ (a' := ?_) ?_ ?_
               rotate_left
               ·show Act.put _ (some 38) _ = _
                simp only [Act.put, sS_, sZ_, sC_, i64_w, i32_w]
                rfl
               refine pure_ (i := 10) (N := some 39) (v := ?_) (a' := ?_) D11_63 rfl rfl (any_of HT_.out (by kernel_rfl)) (fun _ _ _ h => h) (Or.inl ⟨by rfl, ?_⟩) ?_ ?_
               rotate_left
               ·intro w'
                go_simp
                with_reducible rfl
               rotate_left
               ·simp only [Act.put, sS_, sZ_, sC_, i64_w, i32_w]
                rfl
               refine pure_ (i := 11) (N := some 40) (v := ?_) (a' := ?_) D12_63 rfl rfl (any_of HT_.out (by kernel_rfl)) (fun _ _ _ h => h) (Or.inl ⟨by rfl, ?_⟩) ?_ ?_
               rotate_left
               ·intro w'
                go_simp
                with_reducible rfl
               rotate_left
               ·simp only [Act.put, sS_, sZ_, sC_, i64_w, i32_w]
                rfl
               refine pure_ (i := 12) (N := some 41) (v := ?_) (a' := ?_) D13_63 rfl rfl (any_of HT_.out (by kernel_rfl)) (fun _ _ _ h => h) (Or.inl ⟨by rfl, ?_⟩) ?_ ?_
               rotate_left
               ·intro w'
                go_simp
                with_reducible rfl
               rotate_left
               ·simp only [Act.put, sS_, sZ_, sC_, i64_w, i32_w]
                rfl
               refine pure_ (i := 13) (N := some 42) (v := ?_) (a' := ?_) D14_63 rfl rfl (any_of HT_.out (by kernel_rfl)) (fun _ _ _ h => h) (Or.inl ⟨by rfl, ?_⟩) ?_ ?_
               rotate_left
               ·intro w'
                go_simp
                with_reducible rfl
               rotate_left
               ·simp only [Act.put, sS_, sZ_, sC_, i64_w, i32_w]
                rfl
               refine pure_ (i := 14) (N := some 43) (v := ?_) (a' := ?_) D15_63 rfl rfl (any_of HT_.out (by kernel_rfl)) (fun _ _ _ h => h) (Or.inl ⟨by rfl, ?_⟩) ?_ ?_
               rotate_left
               ·intro w'
                go_simp
                with_reducible rfl
               rotate_left
               ·simp only [Act.put, sS_, sZ_, sC_, i64_w, i32_w]
                rfl
               refine pure_ (i := 15) (N := some 44) (v := ?_) (a' := ?_) D16_63 rfl rfl (any_of HT_.out (by kernel_rfl)) (fun _ _ _ h => h) (Or.inl ⟨by rfl, ?_⟩) ?_ ?_
               rotate_left
               ·intro w'
                go_simp
                with_reducible rfl
               rotate_left
               ·simp only [Act.put, sS_, sZ_, sC_, i64_w, i32_w]
                rfl
               refine take_ (i := 16) (N := some 45) (v := ?_) (a' := ?_) D17_63 rfl rfl (take_ofW HT_.out HW_.out (by kernel_rfl)) (fun _ _ _ h => h) (Or.inl ⟨by rfl, ?_⟩) hHeld ?_ ?_
               rotate_left
               ·rintro w' ⟨s0, s1, s2, s3, s4, s5, s6, s7⟩
                go_simp
                with_reducible rfl
               rotate_left
               ·simp only [Act.put, sS_, sZ_, sC_, i64_w, i32_w]
                rfl
               refine pure_ (i := 17) (N := some 46) (v := ?_) (a' := ?_) D18_63 rfl rfl (any_of HT_.out (by kernel_rfl)) (fun _ _ _ h => h) (Or.inl ⟨by rfl, ?_⟩) ?_ ?_
               rotate_left
               ·intro w'
                go_simp
                with_reducible rfl
               rotate_left
               ·simp only [Act.put, sS_, sZ_, sC_, i64_w, i32_w]
                rfl
               refine one_ (i := 18) (N := some 47) D19_63 rfl rfl (one_of HT_.out (by kernel_rfl)) (by decide) (fun K hK => ?_)
               refine goes_ Try.func131 (by kernel_rfl) rfl #[.slice (some ad216) y220.length c1, .func (.func 114) #[.agg #[.int .i64 ((rd_T76 l1 x24_2).f0), .int .i64 ((rd_T76 l1 x24_2).f1), .int .i64 ((rd_T76 l1 x24_2).f2), .int .i64 ((rd_T76 l1 x24_2).f3)]] #[]] (by rfl) rfl rfl (by (try simp only [List.map_toArray, List.map_cons, List.map_nil]); first | done | rfl | (simp only [List.length_drop, List.length_take]; rfl)) ?_
               with_reducible refine (impl_Hole_131__impl_Hole_meets.calls _ _ y220 ((rd_T76 l1 x24_2).f0) ((rd_T76 l1 x24_2).f1) ((rd_T76 l1 x24_2).f2) ((rd_T76 l1 x24_2).f3) true _ ?side1 ?side2 A35.out).mono ?_
               (case side1 => repeat (first | exact (Kd.C_below HR223.out HB.out) | (with_reducible refine Kd.C_alloc ?_ _) | (with_reducible refine Kd.C_drewN ?_ _) | (with_reducible refine Kd.C_drew ?_)))
               (case side2 => exact HC223.out)
               rintro e w44 ⟨rfl, hb⟩
               refine ⟨_, rfl, ?_⟩
               have n0_ := Aside0.mk (blk_below (g := gb213) (o := .cells #[.int .i64 a0_0, .int .i64 a0_1, .slice A0_2 l0_2.length c0_2] 26 (0, 0)) (by (with_reducible repeat (first | refine blk_drewN ?_ _ | refine blk_drew ?_ | refine blk_alloc ?_ _)); exact BK213.out) hb)
               have n1_ := Aside0.mk (blk_below (g := gb217) (o := .cells #[.int .i64 ((rd_T76 l1 x24_2).f0), .int .i64 ((rd_T76 l1 x24_2).f1), .int .i64 ((rd_T76 l1 x24_2).f2), .int .i64 ((rd_T76 l1 x24_2).f3)] 76 (0, 0)) (by (with_reducible repeat (first | refine blk_drewN ?_ _ | refine blk_drew ?_ | refine blk_alloc ?_ _)); exact BK217.out) hb)
               have n2_ := Aside0.mk (below_step (by repeat (first | (with_reducible first | exact HB.out | apply below_alloc | apply pw_below_drewN | apply below_drew1 | refine below_set ?_ GE213.out | refine below_set ?_ GE217.out) | exact HB.out)) hb)
               clear BK213
               clear BK217
               clear HB
               have BK213 := n0_
               have BK217 := n1_
               have HB := n2_
               clear n0_ n1_ n2_
               (try clear hb)
               (try clear hb2)
               (try clear hk)
               (try clear hi)
               refine hK.out _ _ ⟨(blk_cell BK217.out 0).trans rfl, (blk_cell BK217.out 1).trans rfl, (blk_cell BK217.out 2).trans rfl, (blk_cell BK217.out 3).trans rfl, ((HB.out.cell (World.block_lt_of_cell? w _ hw218_0)).trans hw218_0), ((HB.out.cell (World.block_lt_of_cell? w _ hw218_1)).trans hw218_1), ((HB.out.cell (World.block_lt_of_cell? w _ hw218_2)).trans hw218_2), ((HB.out.cell (World.block_lt_of_cell? w _ hw218_3)).trans hw218_3)⟩ (fun hHeld => ?_)
               clear hK K
               refine norm_ (a' := ?_) ?_ ?_
               rotate_left
               ·show Act.put _ (some 47) _ = _
                simp only [Act.put, sS_, sZ_, sC_, i64_w, i32_w]
                rfl
               refine pure_ (i := 19) (N := some 48) (v := ?_) (a' := ?_) D20_63 rfl rfl (any_of HT_.out (by kernel_rfl)) (fun _ _ _ h => h) (Or.inl ⟨by rfl, ?_⟩) ?_ ?_
               rotate_left
               ·intro w'
                go_simp
                with_reducible rfl
               rotate_left
               ·simp only [Act.put, sS_, sZ_, sC_, i64_w, i32_w]
                rfl
               refine done_ (done_of HT_.out (by kernel_rfl)) ?_
               try go_wp2
               go_ret
               exact ⟨by first | rfl | (simp [errW_none, errW_some] <;> rfl) | (simp only [← hji22]; first | rfl | (simp [errW_none, errW_some] <;> rfl)) | (simp [*, errW_none, errW_some] <;> rfl) | (simp [wrap64]; done), by repeat (first | (with_reducible first | exact HB.out | apply below_alloc | apply pw_below_drewN | apply below_drew1 | refine below_set ?_ GE213.out | refine below_set ?_ GE217.out) | exact HB.out)⟩
              ·replace c36 := Bool.eq_false_iff.mpr c36
               subst c36
               rw [if_neg (show ¬ (false = true) by decide)] at H
               have H' := Aside0.mk H
               clear H
               have p216 : 0 ≤ (x24_2 : Int) := of_decide_eq_true (by first | (with_reducible assumption) | assumption)
               have q216 : x24_2 < (l1.length : Int) := of_decide_eq_true (by first | (with_reducible assumption) | assumption)
               obtain ⟨ad216, e216, hx216_0, hx216_1, hx216_2, hx216_3⟩ := at_T76 HR1.out x24_2 p216 q216
               cases e216
               replace hx216_0 := (HB.out.cell (World.block_lt_of_cell? w _ hx216_0)).trans hx216_0
               replace hx216_1 := (HB.out.cell (World.block_lt_of_cell? w _ hx216_1)).trans hx216_1
               replace hx216_2 := (HB.out.cell (World.block_lt_of_cell? w _ hx216_2)).trans hx216_2
               replace hx216_3 := (HB.out.cell (World.block_lt_of_cell? w _ hx216_3)).trans hx216_3
               replace p216 := eq_true p216
               replace q216 := eq_true q216
               try go_wp2_with (first | ((with_reducible refine gate_dst (N := 6) rfl ?_); (try (refine gate_guard (by rfl) ?_; dsimp only)); refine box_event ?hg (N := 6) ?hd (cs := #[.int .i64 0, .int .i64 0, .int .i64 0, .int .i64 0]) (t := 76) ?hr ?_; (case hd => rfl); (case hg => rfl); (case hr => first | (go_simp; done) | (go_simp; rfl)); intro gb217 hg w45 hbox hb; have n0_ := Aside0.mk (blk_below (g := gb213) (o := .cells #[.int .i64 a0_0, .int .i64 a0_1, .slice A0_2 l0_2.length c0_2] 26 (0, 0)) (by (with_reducible repeat (first | refine blk_drewN ?_ _ | refine blk_drew ?_ | refine blk_alloc ?_ _)); exact BK213.out) hb); have n1_ := Aside0.mk (below_step (by repeat (first | (with_reducible first | exact HB.out | apply below_alloc | apply pw_below_drewN | apply below_drew1 | refine below_set ?_ GE213.out) | exact HB.out)) hb); have n2_ := Aside0.mk (hbox); have n3_ := Aside0.mk ((by rw [hg]; exact (below_size (by repeat (first | (with_reducible first | exact HB.out | apply below_alloc | apply pw_below_drewN | apply below_drew1 | refine below_set ?_ GE213.out) | exact HB.out))) : w.heap.size ≤ gb217)); have n4_ := Aside0.mk ((by rw [hg]; exact (below_size (by repeat (first | (with_reducible first | exact HB.out | apply below_alloc | apply pw_below_drewN | apply below_drew1 | refine below_set ?_ GE213.out) | exact HB.out))) : w.heap.size ≤ gb217)); have n5_ := Aside0.mk ((by rw [hg]; exact Nat.ne_of_lt (blk_lt (g := gb213) (o := .cells #[.int .i64 a0_0, .int .i64 a0_1, .slice A0_2 l0_2.length c0_2] 26 (0, 0)) (by (with_reducible repeat (first | refine blk_drewN ?_ _ | refine blk_drew ?_ | refine blk_alloc ?_ _)); exact BK213.out)) : gb213 ≠ gb217)); have n6_ := Aside0.mk ((by rw [hg]; exact Nat.ne_of_gt (blk_lt (g := gb213) (o := .cells #[.int .i64 a0_0, .int .i64 a0_1, .slice A0_2 l0_2.length c0_2] 26 (0, 0)) (by (with_reducible repeat (first | refine blk_drewN ?_ _ | refine blk_drew ?_ | refine blk_alloc ?_ _)); exact BK213.out)) : gb217 ≠ gb213)); clear BK213; clear HB; have BK213 := n0_; have HB := n1_; have BK217 := n2_; have GW217 := n3_; have GE217 := n4_; have NB213_217 := n5_; have NB217_213 := n6_; clear n0_ n1_ n2_ n3_ n4_ n5_ n6_; clear hb hbox hg; have hnb46 := NB217_213.out; have hnc46 := NB213_217.out; have hcz47_0 : w45.cell? ⟨gb217, 0, none⟩ = some (.int .i64 0) := (blk_cell BK217.out 0).trans rfl; have hcz47_1 : w45.cell? ⟨gb217, 1, none⟩ = some (.int .i64 0) := (blk_cell BK217.out 1).trans rfl; have hcz47_2 : w45.cell? ⟨gb217, 2, none⟩ = some (.int .i64 0) := (blk_cell BK217.out 2).trans rfl; have hcz47_3 : w45.cell? ⟨gb217, 3, none⟩ = some (.int .i64 0) := (blk_cell BK217.out 3).trans rfl; have hfz47_0 := blk_frozen BK217.out 0; have hfz47_1 := blk_frozen BK217.out 1; have hfz47_2 := blk_frozen BK217.out 2; have hfz47_3 := blk_frozen BK217.out 3))
               have n0_ : Aside0 (((((w45.setCell ⟨gb217, 0, none⟩ (.int .i64 ((rd_T76 l1 x24_2).f0))).setCell ⟨gb217, 1, none⟩ (.int .i64 ((rd_T76 l1 x24_2).f1))).setCell ⟨gb217, 2, none⟩ (.int .i64 ((rd_T76 l1 x24_2).f2))).setCell ⟨gb217, 3, none⟩ (.int .i64 ((rd_T76 l1 x24_2).f3))).heap[gb213]? = some (.cells #[.int .i64 a0_0, .int .i64 a0_1, .slice A0_2 l0_2.length c0_2] 26 (0, 0))) := ⟨by (with_reducible repeat (first | refine blk_drewN ?_ _ | refine blk_drew ?_ | refine blk_alloc ?_ _)); refine blk_far ?_ NB213_217.out _; (with_reducible repeat (first | refine blk_drewN ?_ _ | refine blk_drew ?_ | refine blk_alloc ?_ _)); refine blk_far ?_ NB213_217.out _; (with_reducible repeat (first | refine blk_drewN ?_ _ | refine blk_drew ?_ | refine blk_alloc ?_ _)); refine blk_far ?_ NB213_217.out _; (with_reducible repeat (first | refine blk_drewN ?_ _ | refine blk_drew ?_ | refine blk_alloc ?_ _)); refine blk_far ?_ NB213_217.out _; (with_reducible repeat (first | refine blk_drewN ?_ _ | refine blk_drew ?_ | refine blk_alloc ?_ _)); exact BK213.out⟩
               have n1_ : Aside0 (((((w45.setCell ⟨gb217, 0, none⟩ (.int .i64 ((rd_T76 l1 x24_2).f0))).setCell ⟨gb217, 1, none⟩ (.int .i64 ((rd_T76 l1 x24_2).f1))).setCell ⟨gb217, 2, none⟩ (.int .i64 ((rd_T76 l1 x24_2).f2))).setCell ⟨gb217, 3, none⟩ (.int .i64 ((rd_T76 l1 x24_2).f3))).heap[gb217]? = some (.cells #[.int .i64 ((rd_T76 l1 x24_2).f0), .int .i64 ((rd_T76 l1 x24_2).f1), .int .i64 ((rd_T76 l1 x24_2).f2), .int .i64 ((rd_T76 l1 x24_2).f3)] 76 (0, 0))) := ⟨by (with_reducible repeat (first | refine blk_drewN ?_ _ | refine blk_drew ?_ | refine blk_alloc ?_ _)); refine blk_put (cs := #[.int .i64 ((rd_T76 l1 x24_2).f0), .int .i64 ((rd_T76 l1 x24_2).f1), .int .i64 ((rd_T76 l1 x24_2).f2), .int .i64 0]) ?_ 3 _ rfl; (with_reducible repeat (first | refine blk_drewN ?_ _ | refine blk_drew ?_ | refine blk_alloc ?_ _)); refine blk_put (cs := #[.int .i64 ((rd_T76 l1 x24_2).f0), .int .i64 ((rd_T76 l1 x24_2).f1), .int .i64 0, .int .i64 0]) ?_ 2 _ rfl; (with_reducible repeat (first | refine blk_drewN ?_ _ | refine blk_drew ?_ | refine blk_alloc ?_ _)); refine blk_put (cs := #[.int .i64 ((rd_T76 l1 x24_2).f0), .int .i64 0, .int .i64 0, .int .i64 0]) ?_ 1 _ rfl; (with_reducible repeat (first | refine blk_drewN ?_ _ | refine blk_drew ?_ | refine blk_alloc ?_ _)); refine blk_put (cs := #[.int .i64 0, .int .i64 0, .int .i64 0, .int .i64 0]) ?_ 0 _ rfl; (with_reducible repeat (first | refine blk_drewN ?_ _ | refine blk_drew ?_ | refine blk_alloc ?_ _)); exact BK217.out⟩
               have n2_ : Aside0 (Below w.heap.size w ((((w45.setCell ⟨gb217, 0, none⟩ (.int .i64 ((rd_T76 l1 x24_2).f0))).setCell ⟨gb217, 1, none⟩ (.int .i64 ((rd_T76 l1 x24_2).f1))).setCell ⟨gb217, 2, none⟩ (.int .i64 ((rd_T76 l1 x24_2).f2))).setCell ⟨gb217, 3, none⟩ (.int .i64 ((rd_T76 l1 x24_2).f3)))) := ⟨by repeat (first | (with_reducible first | exact HB.out | apply below_alloc | apply pw_below_drewN | apply below_drew1 | refine below_set ?_ GE213.out | refine below_set ?_ GE217.out) | exact HB.out)⟩
               (try clear BK213)
               (try clear BK217)
               (try clear HB)
               generalize ((((w45.setCell ⟨gb217, 0, none⟩ (.int .i64 ((rd_T76 l1 x24_2).f0))).setCell ⟨gb217, 1, none⟩ (.int .i64 ((rd_T76 l1 x24_2).f1))).setCell ⟨gb217, 2, none⟩ (.int .i64 ((rd_T76 l1 x24_2).f2))).setCell ⟨gb217, 3, none⟩ (.int .i64 ((rd_T76 l1 x24_2).f3))) = w48 at n0_ n1_ n2_ ⊢
               have BK213 := n0_
               have BK217 := n1_
               have HB := n2_
               clear n0_ n1_ n2_
               have n0_ := Aside0.mk (blk_drew BK213.out)
               have n1_ := Aside0.mk (blk_drew BK217.out)
               have n2_ := Aside0.mk (below_drew1 HB.out)
               clear BK213
               clear BK217
               clear HB
               have BK213 := n0_
               have BK217 := n1_
               have HB := n2_
               clear n0_ n1_ n2_
               have p218 : 0 ≤ ((ji22) : Int) := of_decide_eq_true (by first | (with_reducible assumption) | assumption)
               have q218 : (ji22) < (l1.length : Int) := of_decide_eq_true (by first | (with_reducible assumption) | assumption)
               obtain ⟨ad218, e218, hx218_0, hx218_1, hx218_2, hx218_3⟩ := at_T76 HR1.out (ji22) p218 q218
               have hw218_3 := hx218_3
               have hw218_2 := hx218_2
               have hw218_1 := hx218_1
               have hw218_0 := hx218_0
               obtain rfl : ad216 = ad218 := (by injection e218)
               replace hx218_0 := (HB.out.cell (World.block_lt_of_cell? w _ hx218_0)).trans hx218_0
               replace hx218_1 := (HB.out.cell (World.block_lt_of_cell? w _ hx218_1)).trans hx218_1
               replace hx218_2 := (HB.out.cell (World.block_lt_of_cell? w _ hx218_2)).trans hx218_2
               replace hx218_3 := (HB.out.cell (World.block_lt_of_cell? w _ hx218_3)).trans hx218_3
               replace p218 := eq_true p218
               replace q218 := eq_true q218
               refine start_ (n := 20) (S := fun w' => w'.cell? ⟨gb217, 0, none⟩ = some (.int .i64 ((rd_T76 l1 x24_2).f0)) ∧ w'.cell? ⟨gb217, 1, none⟩ = some (.int .i64 ((rd_T76 l1 x24_2).f1)) ∧ w'.cell? ⟨gb217, 2, none⟩ = some (.int .i64 ((rd_T76 l1 x24_2).f2)) ∧ w'.cell? ⟨gb217, 3, none⟩ = some (.int .i64 ((rd_T76 l1 x24_2).f3)) ∧ w'.cell? (ad216.add (((ji22)).toNat * 4)) = some (.int .i64 ((rd_T76 l1 (ji22)).f0)) ∧ w'.cell? ⟨(ad216.add (((ji22)).toNat * 4)).block, (ad216.add (((ji22)).toNat * 4)).off + 1, none⟩ = some (.int .i64 ((rd_T76 l1 (ji22)).f1)) ∧ w'.cell? ⟨(ad216.add (((ji22)).toNat * 4)).block, (ad216.add (((ji22)).toNat * 4)).off + 2, none⟩ = some (.int .i64 ((rd_T76 l1 (ji22)).f2)) ∧ w'.cell? ⟨(ad216.add (((ji22)).toNat * 4)).block, (ad216.add (((ji22)).toNat * 4)).off + 3, none⟩ = some (.int .i64 ((rd_T76 l1 (ji22)).f3))) (ds := []) D0_63 (by kernel_rfl) rfl rfl ⟨(blk_cell BK217.out 0).trans rfl, (blk_cell BK217.out 1).trans rfl, (blk_cell BK217.out 2).trans rfl, (blk_cell BK217.out 3).trans rfl, ((HB.out.cell (World.block_lt_of_cell? w _ hw218_0)).trans hw218_0), ((HB.out.cell (World.block_lt_of_cell? w _ hw218_1)).trans hw218_1), ((HB.out.cell (World.block_lt_of_cell? w _ hw218_2)).trans hw218_2), ((HB.out.cell (World.block_lt_of_cell? w _ hw218_3)).trans hw218_3)⟩ (fun hHeld => ?_); refine with_tabW impl_AreHoles.tab6 impl_AreHoles.bits6 (fun HT_ HW_ => ?_)
               generalize w48.drew = w49 at BK213 BK217 HB hx218_0 hx218_1 hx218_2 hx218_3 hHeld ⊢
               refine pure_ (i := 0) (N := some 29) (v := ?_) (a' := ?_) D1_63 rfl rfl (any_of HT_.out (by kernel_rfl)) (fun _ _ _ h => h) (Or.inl ⟨by rfl, ?_⟩) ?_ ?_
               rotate_left
               ·intro w'
                go_simp
                with_reducible rfl
               rotate_left
               ·simp only [Act.put, sS_, sZ_, sC_, i64_w, i32_w]
                rfl
               refine pure_ (i := 1) (N := some 30) (v := ?_) (a' := ?_) D2_63 rfl rfl (any_of HT_.out (by kernel_rfl)) (fun _ _ _ h => h) (Or.inl ⟨by rfl, ?_⟩) ?_ ?_
               rotate_left
               ·intro w'
                go_simp
                with_reducible rfl
               rotate_left
               ·simp only [Act.put, sS_, sZ_, sC_, i64_w, i32_w]
                rfl
               refine pure_ (i := 2) (N := some 31) (v := ?_) (a' := ?_) D3_63 rfl rfl (any_of HT_.out (by kernel_rfl)) (fun _ _ _ h => h) (Or.inl ⟨by rfl, ?_⟩) ?_ ?_
               rotate_left
               ·intro w'
                go_simp
                with_reducible rfl
               rotate_left
               ·simp only [Act.put, sS_, sZ_, sC_, i64_w, i32_w]
                rfl
               refine pure_ (i := 3) (N := some 32) (v := ?_) (a' := ?_) D4_63 rfl rfl (any_of HT_.out (by kernel_rfl)) (fun _ _ _ h => h) (Or.inl ⟨by rfl, ?_⟩) ?_ ?_
               rotate_left
               ·intro w'
                go_simp
                with_reducible rfl
               rotate_left
               ·simp only [Act.put, sS_, sZ_, sC_, i64_w, i32_w]
                rfl
               refine pure_ (i := 4) (N := some 33) (v := ?_) (a' := ?_) D5_63 rfl rfl (any_of HT_.out (by kernel_rfl)) (fun _ _ _ h => h) (Or.inl ⟨by rfl, ?_⟩) ?_ ?_
               rotate_left
               ·intro w'
                go_simp
                with_reducible rfl
               rotate_left
               ·simp only [Act.put, sS_, sZ_, sC_, i64_w, i32_w]
                rfl
               refine pure_ (i := 5) (N := some 34) (v := ?_) (a' := ?_) D6_63 rfl rfl (any_of HT_.out (by kernel_rfl)) (fun _ _ _ h => h) (Or.inl ⟨by rfl, ?_⟩) ?_ ?_
               rotate_left
               ·intro w'
                go_simp
                with_reducible rfl
               rotate_left
               ·simp only [Act.put, sS_, sZ_, sC_, i64_w, i32_w]
                rfl
               refine pure_ (i := 6) (N := some 35) (v := ?_) (a' := ?_) D7_63 rfl rfl (any_of HT_.out (by kernel_rfl)) (fun _ _ _ h => h) (Or.inl ⟨by rfl, ?_⟩) ?_ ?_
               rotate_left
               ·intro w'
                go_simp
                with_reducible rfl
               rotate_left
               ·simp only [Act.put, sS_, sZ_, sC_, i64_w, i32_w]
                rfl
               refine take_ (i := 7) (N := some 36) (v := ?_) (a' := ?_) D8_63 rfl rfl (take_ofW HT_.out HW_.out (by kernel_rfl)) (fun _ _ _ h => h) (Or.inl ⟨by rfl, ?_⟩) hHeld ?_ ?_
               rotate_left
               ·rintro w' ⟨s0, s1, s2, s3, s4, s5, s6, s7⟩
                go_simp
                with_reducible rfl
               rotate_left
               ·simp only [Act.put, sS_, sZ_, sC_, i64_w, i32_w]
                rfl
               refine take_ (i := 8) (N := some 37) (v := ?_) (a' := ?_) D9_63 rfl rfl (take_ofW HT_.out HW_.out (by kernel_rfl)) (fun _ _ _ h => h) (Or.inl ⟨by rfl, ?_⟩) hHeld ?_ ?_
               rotate_left
               ·rintro w' ⟨s0, s1, s2, s3, s4, s5, s6, s7⟩
                go_simp
                with_reducible rfl
               rotate_left
               ·simp only [Act.put, sS_, sZ_, sC_, i64_w, i32_w]
                rfl
               refine one_ (i := 9) (N := some 38) D10_63 rfl rfl (one_of HT_.out (by kernel_rfl)) (by decide) (fun K hK => ?_)
               refine goes_ Try.func117 (by kernel_rfl) rfl #[.agg #[.int .i64 ((rd_T76 l1 (ji22)).f0), .int .i64 ((rd_T76 l1 (ji22)).f1), .int .i64 ((rd_T76 l1 (ji22)).f2), .int .i64 ((rd_T76 l1 (ji22)).f3)], .agg #[.int .i64 ((rd_T76 l1 x24_2).f0), .int .i64 ((rd_T76 l1 x24_2).f1), .int .i64 ((rd_T76 l1 x24_2).f2), .int .i64 ((rd_T76 l1 x24_2).f3)]] (by rfl) rfl rfl (by (try simp only [List.map_toArray, List.map_cons, List.map_nil]); first | done | (simp only [hji22]; rfl) | rfl | (simp only [List.length_drop, List.length_take]; rfl)) ?_
               with_reducible refine (impl_Hole_compare.calls k2 ((rd_T76 l1 (ji22)).f0) ((rd_T76 l1 (ji22)).f1) ((rd_T76 l1 (ji22)).f2) ((rd_T76 l1 (ji22)).f3) ((rd_T76 l1 x24_2).f0) ((rd_T76 l1 x24_2).f1) ((rd_T76 l1 x24_2).f2) ((rd_T76 l1 x24_2).f3) t219 _ A25.out).mono ?_
               rintro e w50 ⟨rfl, hb⟩
               refine ⟨_, rfl, ?_⟩
               have n0_ := Aside0.mk (blk_below (g := gb213) (o := .cells #[.int .i64 a0_0, .int .i64 a0_1, .slice A0_2 l0_2.length c0_2] 26 (0, 0)) (by (with_reducible repeat (first | refine blk_drewN ?_ _ | refine blk_drew ?_ | refine blk_alloc ?_ _)); exact BK213.out) hb)
               have n1_ := Aside0.mk (blk_below (g := gb217) (o := .cells #[.int .i64 ((rd_T76 l1 x24_2).f0), .int .i64 ((rd_T76 l1 x24_2).f1), .int .i64 ((rd_T76 l1 x24_2).f2), .int .i64 ((rd_T76 l1 x24_2).f3)] 76 (0, 0)) (by (with_reducible repeat (first | refine blk_drewN ?_ _ | refine blk_drew ?_ | refine blk_alloc ?_ _)); exact BK217.out) hb)
               have n2_ := Aside0.mk (below_step (by repeat (first | (with_reducible first | exact HB.out | apply below_alloc | apply pw_below_drewN | apply below_drew1 | refine below_set ?_ GE213.out | refine below_set ?_ GE217.out) | exact HB.out)) hb)
               clear BK213
               clear BK217
               clear HB
               have BK213 := n0_
               have BK217 := n1_
               have HB := n2_
               clear n0_ n1_ n2_
               (try clear hb)
               (try clear hb2)
               (try clear hk)
               (try clear hi)
               have q51 : (x24_2 : Int) ≤ ((l1.length : Int) : Int) := of_decide_eq_true (by first | (with_reducible assumption) | assumption)
               obtain ⟨i051, hi051, _, hsz51, _⟩ := info_parts info76
               have hroom51 : l1.length ≤ c1 := HC1.out
               have hC51 : Kd.C k76 _ (some ad216) l1.length l1 := HR1.out
               have hcut51 := cut_to (P := Try.prog) 65 76 .i64 Try.underlying65 hi051 (some ad216) l1.length c1 x24_2 (of_decide_eq_true (by first | (with_reducible assumption) | assumption)) q51 hroom51
               have hr51 := Kd.C_take (m := (x24_2 : Int).toNat) hC51 (by omega)
               have hy51 : y220.length = (x24_2 : Int).toNat := (by rw [Ny220.out, List.length_take]; omega)
               rw [← Ny220.out] at hr51
               rw [← hy51] at hcut51
               have HR223 := Aside0.mk hr51
               have HC223 := Aside0.mk (show y220.length ≤ c1 from by omega)
               clear hr51 hC51 hroom51 hi051 hsz51
               have KY51 := Aside0.mk hy51
               clear hy51
               replace q51 := eq_true q51
               refine hK.out _ _ ⟨(blk_cell BK217.out 0).trans rfl, (blk_cell BK217.out 1).trans rfl, (blk_cell BK217.out 2).trans rfl, (blk_cell BK217.out 3).trans rfl, ((HB.out.cell (World.block_lt_of_cell? w _ hw218_0)).trans hw218_0), ((HB.out.cell (World.block_lt_of_cell? w _ hw218_1)).trans hw218_1), ((HB.out.cell (World.block_lt_of_cell? w _ hw218_2)).trans hw218_2), ((HB.out.cell (World.block_lt_of_cell? w _ hw218_3)).trans hw218_3)⟩ (fun hHeld => ?_)
               clear hK K
               refine norm_ (a' := ?_) ?_ ?_
               rotate_left
               ·show Act.put _ (some 38) _ = _
                simp only [Act.put, sS_, sZ_, sC_, i64_w, i32_w]
                rfl
               refine pure_ (i := 10) (N := some 39) (v := ?_) (a' := ?_) D11_63 rfl rfl (any_of HT_.out (by kernel_rfl)) (fun _ _ _ h => h) (Or.inl ⟨by rfl, ?_⟩) ?_ ?_
               rotate_left
               ·intro w'
                go_simp
                with_reducible rfl
               rotate_left
               ·simp only [Act.put, sS_, sZ_, sC_, i64_w, i32_w]
                rfl
               refine pure_ (i := 11) (N := some 40) (v := ?_) (a' := ?_) D12_63 rfl rfl (any_of HT_.out (by kernel_rfl)) (fun _ _ _ h => h) (Or.inl ⟨by rfl, ?_⟩) ?_ ?_
               rotate_left
               ·intro w'
                go_simp
                with_reducible rfl
               rotate_left
               ·simp only [Act.put, sS_, sZ_, sC_, i64_w, i32_w]
                rfl
               refine pure_ (i := 12) (N := some 41) (v := ?_) (a' := ?_) D13_63 rfl rfl (any_of HT_.out (by kernel_rfl)) (fun _ _ _ h => h) (Or.inl ⟨by rfl, ?_⟩) ?_ ?_
               rotate_left
               ·intro w'
                go_simp
                with_reducible rfl
               rotate_left
               ·simp only [Act.put, sS_, sZ_, sC_, i64_w, i32_w]
                rfl
               refine pure_ (i := 13) (N := some 42) (v := ?_) (a' := ?_) D14_63 rfl rfl (any_of HT_.out (by kernel_rfl)) (fun _ _ _ h => h) (Or.inl ⟨by rfl, ?_⟩) ?_ ?_
               rotate_left
               ·intro w'
                go_simp
                with_reducible rfl
               rotate_left
               ·simp only [Act.put, sS_, sZ_, sC_, i64_w, i32_w]
                rfl
               refine pure_ (i := 14) (N := some 43) (v := ?_) (a' := ?_) D15_63 rfl rfl (any_of HT_.out (by kernel_rfl)) (fun _ _ _ h => h) (Or.inl ⟨by rfl, ?_⟩) ?_ ?_
               rotate_left
               ·intro w'
                go_simp
                with_reducible rfl
               rotate_left
               ·simp only [Act.put, sS_, sZ_, sC_, i64_w, i32_w]
                rfl
               refine pure_ (i := 15) (N := some 44) (v := ?_) (a' := ?_) D16_63 rfl rfl (any_of HT_.out (by kernel_rfl)) (fun _ _ _ h => h) (Or.inl ⟨by rfl, ?_⟩) ?_ ?_
               rotate_left
               ·intro w'
                go_simp
                with_reducible rfl
               rotate_left
               ·simp only [Act.put, sS_, sZ_, sC_, i64_w, i32_w]
                rfl
               refine take_ (i := 16) (N := some 45) (v := ?_) (a' := ?_) D17_63 rfl rfl (take_ofW HT_.out HW_.out (by kernel_rfl)) (fun _ _ _ h => h) (Or.inl ⟨by rfl, ?_⟩) hHeld ?_ ?_
               rotate_left
               ·rintro w' ⟨s0, s1, s2, s3, s4, s5, s6, s7⟩
                go_simp
                with_reducible rfl
               rotate_left
               ·simp only [Act.put, sS_, sZ_, sC_, i64_w, i32_w]
                rfl
               refine pure_ (i := 17) (N := some 46) (v := ?_) (a' := ?_) D18_63 rfl rfl (any_of HT_.out (by kernel_rfl)) (fun _ _ _ h => h) (Or.inl ⟨by rfl, ?_⟩) ?_ ?_
               rotate_left
               ·intro w'
                go_simp
                with_reducible rfl
               rotate_left
               ·simp only [Act.put, sS_, sZ_, sC_, i64_w, i32_w]
                rfl
               refine one_ (i := 18) (N := some 47) D19_63 rfl rfl (one_of HT_.out (by kernel_rfl)) (by decide) (fun K hK => ?_)
               refine goes_ Try.func131 (by kernel_rfl) rfl #[.slice (some ad216) y220.length c1, .func (.func 114) #[.agg #[.int .i64 ((rd_T76 l1 x24_2).f0), .int .i64 ((rd_T76 l1 x24_2).f1), .int .i64 ((rd_T76 l1 x24_2).f2), .int .i64 ((rd_T76 l1 x24_2).f3)]] #[]] (by rfl) rfl rfl (by (try simp only [List.map_toArray, List.map_cons, List.map_nil]); first | done | rfl | (simp only [List.length_drop, List.length_take]; rfl)) ?_
               with_reducible refine (impl_Hole_131__impl_Hole_meets.calls _ _ y220 ((rd_T76 l1 x24_2).f0) ((rd_T76 l1 x24_2).f1) ((rd_T76 l1 x24_2).f2) ((rd_T76 l1 x24_2).f3) false _ ?side1 ?side2 A35.out).mono ?_
               (case side1 => repeat (first | exact (Kd.C_below HR223.out HB.out) | (with_reducible refine Kd.C_alloc ?_ _) | (with_reducible refine Kd.C_drewN ?_ _) | (with_reducible refine Kd.C_drew ?_)))
               (case side2 => exact HC223.out)
               rintro e w52 ⟨rfl, hb⟩
               refine ⟨_, rfl, ?_⟩
               have n0_ := Aside0.mk (blk_below (g := gb213) (o := .cells #[.int .i64 a0_0, .int .i64 a0_1, .slice A0_2 l0_2.length c0_2] 26 (0, 0)) (by (with_reducible repeat (first | refine blk_drewN ?_ _ | refine blk_drew ?_ | refine blk_alloc ?_ _)); exact BK213.out) hb)
               have n1_ := Aside0.mk (blk_below (g := gb217) (o := .cells #[.int .i64 ((rd_T76 l1 x24_2).f0), .int .i64 ((rd_T76 l1 x24_2).f1), .int .i64 ((rd_T76 l1 x24_2).f2), .int .i64 ((rd_T76 l1 x24_2).f3)] 76 (0, 0)) (by (with_reducible repeat (first | refine blk_drewN ?_ _ | refine blk_drew ?_ | refine blk_alloc ?_ _)); exact BK217.out) hb)
               have n2_ := Aside0.mk (below_step (by repeat (first | (with_reducible first | exact HB.out | apply below_alloc | apply pw_below_drewN | apply below_drew1 | refine below_set ?_ GE213.out | refine below_set ?_ GE217.out) | exact HB.out)) hb)
               clear BK213
               clear BK217
               clear HB
               have BK213 := n0_
               have BK217 := n1_
               have HB := n2_
               clear n0_ n1_ n2_
               (try clear hb)
               (try clear hb2)
               (try clear hk)
               (try clear hi)
               refine hK.out _ _ ⟨(blk_cell BK217.out 0).trans rfl, (blk_cell BK217.out 1).trans rfl, (blk_cell BK217.out 2).trans rfl, (blk_cell BK217.out 3).trans rfl, ((HB.out.cell (World.block_lt_of_cell? w _ hw218_0)).trans hw218_0), ((HB.out.cell (World.block_lt_of_cell? w _ hw218_1)).trans hw218_1), ((HB.out.cell (World.block_lt_of_cell? w _ hw218_2)).trans hw218_2), ((HB.out.cell (World.block_lt_of_cell? w _ hw218_3)).trans hw218_3)⟩ (fun hHeld => ?_)
               clear hK K
               refine norm_ (a' := ?_) ?_ ?_
               rotate_left
               ·show Act.put _ (some 47) _ = _
                simp only [Act.put, sS_, sZ_, sC_, i64_w, i32_w]
                rfl
               refine pure_ (i := 19) (N := some 48) (v := ?_) (a' := ?_) D20_63 rfl rfl (any_of HT_.out (by kernel_rfl)) (fun _ _ _ h => h) (Or.inl ⟨by rfl, ?_⟩) ?_ ?_
               rotate_left
               ·intro w'
                go_simp
                with_reducible rfl
               rotate_left
               ·simp only [Act.put, sS_, sZ_, sC_, i64_w, i32_w]
                rfl
               refine done_ (done_of HT_.out (by kernel_rfl)) ?_
               try go_wp2
               go_roundg k2
               case measure => have := HJ2.out; have := HK2.out; omega
               case rel => exact ⟨(wrap64 (x24_2 + 1)), (by first | rfl | (simp; done) | (simp [*]; done)), H', ⟨by have := HJ2.out; have := HK2.out; omega⟩, ⟨by (with_reducible repeat (first | refine blk_drewN ?_ _ | refine blk_drew ?_ | refine blk_alloc ?_ _)); exact BK213.out⟩, ⟨by repeat (first | (with_reducible first | exact HB.out | apply below_alloc | apply pw_below_drewN | apply below_drew1 | refine below_set ?_ GE213.out | refine below_set ?_ GE217.out) | exact HB.out)⟩⟩
             ·rw [if_neg c34] at H
              exact absurd H (by simp)
           ·rw [if_neg c24] at H
            exact absurd H (by simp)
          ·rw [if_neg c23] at H
           exact absurd H (by simp)
         ·rw [if_neg c21] at H
          have c21b0 : decide (0 < x24_2) = false := decide_eq_false c21
          clear c21
          have c53b0 := eq_true (of_decide_eq_true (by first | (with_reducible assumption) | assumption) : 0 ≤ x24_2)
          by_cases c54 : x24_2 ≤ (l1.length : Int)
          ·rw [if_pos c54] at H
           have c54b0 := eq_true c54
           have c54b1 : decide (x24_2 ≤ (l1.length : Int)) = true := decide_eq_true c54
           clear c54
           obtain ⟨y225, hy225⟩ : ∃ y_ : List (S76), y_ = (l1.take (x24_2 : Int).toNat) := ⟨_, rfl⟩
           replace H : ((impl_Hole_131__impl_Hole_meets.f y225 ((rd_T76 l1 x24_2).f0) ((rd_T76 l1 x24_2).f1) ((rd_T76 l1 x24_2).f2) ((rd_T76 l1 x24_2).f3)).bind fun t229 => (if t229 = true then (some false) else (impl_AreHoles.l0 k2 l1 l1 (l1.length : Int) (wrap64 (x24_2 + 1))))) = some r := by first | (rw [hy225]; with_reducible exact H) | (have H2_ := (Option.bind_some _ _).symm.trans H; rw [hy225]; with_reducible exact H2_) | (have H2_ := (Option.bind_some _ _).symm.trans H; with_reducible exact H2_) | with_reducible exact H | (rw [hy225]; exact H) | exact H
           have Ny225 := Aside0.mk hy225
           clear hy225
           replace H := Option.bind_eq_some_iff.mp H
           obtain ⟨t229, A550, H⟩ := H
           have A55 := Aside0.mk A550
           clear A550
           by_cases c56 : t229 = true
           ·subst c56
            rw [if_pos rfl] at H
            obtain rfl := Option.some.inj H
            have p216 : 0 ≤ (x24_2 : Int) := of_decide_eq_true (by first | (with_reducible assumption) | assumption)
            have q216 : x24_2 < (l1.length : Int) := of_decide_eq_true (by first | (with_reducible assumption) | assumption)
            obtain ⟨ad216, e216, hx216_0, hx216_1, hx216_2, hx216_3⟩ := at_T76 HR1.out x24_2 p216 q216
            cases e216
            replace hx216_0 := (HB.out.cell (World.block_lt_of_cell? w _ hx216_0)).trans hx216_0
            replace hx216_1 := (HB.out.cell (World.block_lt_of_cell? w _ hx216_1)).trans hx216_1
            replace hx216_2 := (HB.out.cell (World.block_lt_of_cell? w _ hx216_2)).trans hx216_2
            replace hx216_3 := (HB.out.cell (World.block_lt_of_cell? w _ hx216_3)).trans hx216_3
            replace p216 := eq_true p216
            replace q216 := eq_true q216
            try go_wp2_with (first | ((with_reducible refine gate_dst (N := 6) rfl ?_); (try (refine gate_guard (by rfl) ?_; dsimp only)); refine box_event ?hg (N := 6) ?hd (cs := #[.int .i64 0, .int .i64 0, .int .i64 0, .int .i64 0]) (t := 76) ?hr ?_; (case hd => rfl); (case hg => rfl); (case hr => first | (go_simp; done) | (go_simp; rfl)); intro gb217 hg w57 hbox hb; have n0_ := Aside0.mk (blk_below (g := gb213) (o := .cells #[.int .i64 a0_0, .int .i64 a0_1, .slice A0_2 l0_2.length c0_2] 26 (0, 0)) (by (with_reducible repeat (first | refine blk_drewN ?_ _ | refine blk_drew ?_ | refine blk_alloc ?_ _)); exact BK213.out) hb); have n1_ := Aside0.mk (below_step (by repeat (first | (with_reducible first | exact HB.out | apply below_alloc | apply pw_below_drewN | apply below_drew1 | refine below_set ?_ GE213.out) | exact HB.out)) hb); have n2_ := Aside0.mk (hbox); have n3_ := Aside0.mk ((by rw [hg]; exact (below_size (by repeat (first | (with_reducible first | exact HB.out | apply below_alloc | apply pw_below_drewN | apply below_drew1 | refine below_set ?_ GE213.out) | exact HB.out))) : w.heap.size ≤ gb217)); have n4_ := Aside0.mk ((by rw [hg]; exact (below_size (by repeat (first | (with_reducible first | exact HB.out | apply below_alloc | apply pw_below_drewN | apply below_drew1 | refine below_set ?_ GE213.out) | exact HB.out))) : w.heap.size ≤ gb217)); have n5_ := Aside0.mk ((by rw [hg]; exact Nat.ne_of_lt (blk_lt (g := gb213) (o := .cells #[.int .i64 a0_0, .int .i64 a0_1, .slice A0_2 l0_2.length c0_2] 26 (0, 0)) (by (with_reducible repeat (first | refine blk_drewN ?_ _ | refine blk_drew ?_ | refine blk_alloc ?_ _)); exact BK213.out)) : gb213 ≠ gb217)); have n6_ := Aside0.mk ((by rw [hg]; exact Nat.ne_of_gt (blk_lt (g := gb213) (o := .cells #[.int .i64 a0_0, .int .i64 a0_1, .slice A0_2 l0_2.length c0_2] 26 (0, 0)) (by (with_reducible repeat (first | refine blk_drewN ?_ _ | refine blk_drew ?_ | refine blk_alloc ?_ _)); exact BK213.out)) : gb217 ≠ gb213)); clear BK213; clear HB; have BK213 := n0_; have HB := n1_; have BK217 := n2_; have GW217 := n3_; have GE217 := n4_; have NB213_217 := n5_; have NB217_213 := n6_; clear n0_ n1_ n2_ n3_ n4_ n5_ n6_; clear hb hbox hg; have hnb58 := NB217_213.out; have hnc58 := NB213_217.out; have hcz59_0 : w57.cell? ⟨gb217, 0, none⟩ = some (.int .i64 0) := (blk_cell BK217.out 0).trans rfl; have hcz59_1 : w57.cell? ⟨gb217, 1, none⟩ = some (.int .i64 0) := (blk_cell BK217.out 1).trans rfl; have hcz59_2 : w57.cell? ⟨gb217, 2, none⟩ = some (.int .i64 0) := (blk_cell BK217.out 2).trans rfl; have hcz59_3 : w57.cell? ⟨gb217, 3, none⟩ = some (.int .i64 0) := (blk_cell BK217.out 3).trans rfl; have hfz59_0 := blk_frozen BK217.out 0; have hfz59_1 := blk_frozen BK217.out 1; have hfz59_2 := blk_frozen BK217.out 2; have hfz59_3 := blk_frozen BK217.out 3))
            have n0_ : Aside0 (((((w57.setCell ⟨gb217, 0, none⟩ (.int .i64 ((rd_T76 l1 x24_2).f0))).setCell ⟨gb217, 1, none⟩ (.int .i64 ((rd_T76 l1 x24_2).f1))).setCell ⟨gb217, 2, none⟩ (.int .i64 ((rd_T76 l1 x24_2).f2))).setCell ⟨gb217, 3, none⟩ (.int .i64 ((rd_T76 l1 x24_2).f3))).heap[gb213]? = some (.cells #[.int .i64 a0_0, .int .i64 a0_1, .slice A0_2 l0_2.length c0_2] 26 (0, 0))) := ⟨by (with_reducible repeat (first | refine blk_drewN ?_ _ | refine blk_drew ?_ | refine blk_alloc ?_ _)); refine blk_far ?_ NB213_217.out _; (with_reducible repeat (first | refine blk_drewN ?_ _ | refine blk_drew ?_ | refine blk_alloc ?_ _)); refine blk_far ?_ NB213_217.out _; (with_reducible repeat (first | refine blk_drewN ?_ _ | refine blk_drew ?_ | refine blk_alloc ?_ _)); refine blk_far ?_ NB213_217.out _; (with_reducible repeat (first | refine blk_drewN ?_ _ | refine blk_drew ?_ | refine blk_alloc ?_ _)); refine blk_far ?_ NB213_217.out _; (with_reducible repeat (first | refine blk_drewN ?_ _ | refine blk_drew ?_ | refine blk_alloc ?_ _)); exact BK213.out⟩
            have n1_ : Aside0 (((((w57.setCell ⟨gb217, 0, none⟩ (.int .i64 ((rd_T76 l1 x24_2).f0))).setCell ⟨gb217, 1, none⟩ (.int .i64 ((rd_T76 l1 x24_2).f1))).setCell ⟨gb217, 2, none⟩ (.int .i64 ((rd_T76 l1 x24_2).f2))).setCell ⟨gb217, 3, none⟩ (.int .i64 ((rd_T76 l1 x24_2).f3))).heap[gb217]? = some (.cells #[.int .i64 ((rd_T76 l1 x24_2).f0), .int .i64 ((rd_T76 l1 x24_2).f1), .int .i64 ((rd_T76 l1 x24_2).f2), .int .i64 ((rd_T76 l1 x24_2).f3)] 76 (0, 0))) := ⟨by (with_reducible repeat (first | refine blk_drewN ?_ _ | refine blk_drew ?_ | refine blk_alloc ?_ _)); refine blk_put (cs := #[.int .i64 ((rd_T76 l1 x24_2).f0), .int .i64 ((rd_T76 l1 x24_2).f1), .int .i64 ((rd_T76 l1 x24_2).f2), .int .i64 0]) ?_ 3 _ rfl; (with_reducible repeat (first | refine blk_drewN ?_ _ | refine blk_drew ?_ | refine blk_alloc ?_ _)); refine blk_put (cs := #[.int .i64 ((rd_T76 l1 x24_2).f0), .int .i64 ((rd_T76 l1 x24_2).f1), .int .i64 0, .int .i64 0]) ?_ 2 _ rfl; (with_reducible repeat (first | refine blk_drewN ?_ _ | refine blk_drew ?_ | refine blk_alloc ?_ _)); refine blk_put (cs := #[.int .i64 ((rd_T76 l1 x24_2).f0), .int .i64 0, .int .i64 0, .int .i64 0]) ?_ 1 _ rfl; (with_reducible repeat (first | refine blk_drewN ?_ _ | refine blk_drew ?_ | refine blk_alloc ?_ _)); refine blk_put (cs := #[.int .i64 0, .int .i64 0, .int .i64 0, .int .i64 0]) ?_ 0 _ rfl; (with_reducible repeat (first | refine blk_drewN ?_ _ | refine blk_drew ?_ | refine blk_alloc ?_ _)); exact BK217.out⟩
            have n2_ : Aside0 (Below w.heap.size w ((((w57.setCell ⟨gb217, 0, none⟩ (.int .i64 ((rd_T76 l1 x24_2).f0))).setCell ⟨gb217, 1, none⟩ (.int .i64 ((rd_T76 l1 x24_2).f1))).setCell ⟨gb217, 2, none⟩ (.int .i64 ((rd_T76 l1 x24_2).f2))).setCell ⟨gb217, 3, none⟩ (.int .i64 ((rd_T76 l1 x24_2).f3)))) := ⟨by repeat (first | (with_reducible first | exact HB.out | apply below_alloc | apply pw_below_drewN | apply below_drew1 | refine below_set ?_ GE213.out | refine below_set ?_ GE217.out) | exact HB.out)⟩
            (try clear BK213)
            (try clear BK217)
            (try clear HB)
            generalize ((((w57.setCell ⟨gb217, 0, none⟩ (.int .i64 ((rd_T76 l1 x24_2).f0))).setCell ⟨gb217, 1, none⟩ (.int .i64 ((rd_T76 l1 x24_2).f1))).setCell ⟨gb217, 2, none⟩ (.int .i64 ((rd_T76 l1 x24_2).f2))).setCell ⟨gb217, 3, none⟩ (.int .i64 ((rd_T76 l1 x24_2).f3))) = w60 at n0_ n1_ n2_ ⊢
            have BK213 := n0_
            have BK217 := n1_
            have HB := n2_
            clear n0_ n1_ n2_
            have n0_ := Aside0.mk (blk_drew BK213.out)
            have n1_ := Aside0.mk (blk_drew BK217.out)
            have n2_ := Aside0.mk (below_drew1 HB.out)
            clear BK213
            clear BK217
            clear HB
            have BK213 := n0_
            have BK217 := n1_
            have HB := n2_
            clear n0_ n1_ n2_
            have q62 : (x24_2 : Int) ≤ ((l1.length : Int) : Int) := of_decide_eq_true (by first | (with_reducible assumption) | assumption)
            obtain ⟨i062, hi062, _, hsz62, _⟩ := info_parts info76
            have hroom62 : l1.length ≤ c1 := HC1.out
            have hC62 : Kd.C k76 _ (some ad216) l1.length l1 := HR1.out
            have hcut62 := cut_to (P := Try.prog) 65 76 .i64 Try.underlying65 hi062 (some ad216) l1.length c1 x24_2 (of_decide_eq_true (by first | (with_reducible assumption) | assumption)) q62 hroom62
            have hr62 := Kd.C_take (m := (x24_2 : Int).toNat) hC62 (by omega)
            have hy62 : y225.length = (x24_2 : Int).toNat := (by rw [Ny225.out, List.length_take]; omega)
            rw [← Ny225.out] at hr62
            rw [← hy62] at hcut62
            have HR228 := Aside0.mk hr62
            have HC228 := Aside0.mk (show y225.length ≤ c1 from by omega)
            clear hr62 hC62 hroom62 hi062 hsz62
            have KY62 := Aside0.mk hy62
            clear hy62
            replace q62 := eq_true q62
            refine start_ (n := 20) (S := fun w' => w'.cell? ⟨gb217, 0, none⟩ = some (.int .i64 ((rd_T76 l1 x24_2).f0)) ∧ w'.cell? ⟨gb217, 1, none⟩ = some (.int .i64 ((rd_T76 l1 x24_2).f1)) ∧ w'.cell? ⟨gb217, 2, none⟩ = some (.int .i64 ((rd_T76 l1 x24_2).f2)) ∧ w'.cell? ⟨gb217, 3, none⟩ = some (.int .i64 ((rd_T76 l1 x24_2).f3))) (ds := []) D0_63 (by kernel_rfl) rfl rfl ⟨(blk_cell BK217.out 0).trans rfl, (blk_cell BK217.out 1).trans rfl, (blk_cell BK217.out 2).trans rfl, (blk_cell BK217.out 3).trans rfl⟩ (fun hHeld => ?_); refine with_tabW impl_AreHoles.tab6 impl_AreHoles.bits6 (fun HT_ HW_ => ?_)
            generalize w60.drew = w61 at BK213 BK217 HB HR228 hHeld ⊢
            refine pure_ (i := 0) (N := some 29) (v := ?_) (a' := ?_) D1_63 rfl rfl (any_of HT_.out (by kernel_rfl)) (fun _ _ _ h => h) (Or.inl ⟨by rfl, ?_⟩) ?_ ?_
            rotate_left
            ·intro w'
             go_simp
             with_reducible rfl
            rotate_left
            ·simp only [Act.put, sS_, sZ_, sC_, i64_w, i32_w]
             rfl
            refine pure_ (i := 1) (N := some 30) (v := ?_) (a' := ?_) D2_63 rfl rfl (any_of HT_.out (by kernel_rfl)) (fun _ _ _ h => h) (Or.inl ⟨by rfl, ?_⟩) ?_ ?_
            rotate_left
            ·intro w'
             go_simp
             with_reducible rfl
            rotate_left
            ·simp only [Act.put, sS_, sZ_, sC_, i64_w, i32_w]
             rfl
            refine pure_ (i := 2) (N := some 31) (v := ?_) (a' := ?_) D3_63 rfl rfl (any_of HT_.out (by kernel_rfl)) (fun _ _ _ h => h) (Or.inl ⟨by rfl, ?_⟩) ?_ ?_
            rotate_left
            ·intro w'
             go_simp
             with_reducible rfl
            rotate_left
            ·simp only [Act.put, sS_, sZ_, sC_, i64_w, i32_w]
             rfl
            refine pure_ (i := 3) (N := some 32) (v := undef) (a' := ?_) D4_63 rfl rfl (any_of HT_.out (by kernel_rfl)) (fun _ _ _ h => h) (Or.inr ⟨by rfl, rfl⟩) ?_ ?_
            rotate_left
            ·simp only [Act.put, sS_, sZ_, sC_, i64_w, i32_w]
             rfl
            refine pure_ (i := 4) (N := some 33) (v := undef) (a' := ?_) D5_63 rfl rfl (any_of HT_.out (by kernel_rfl)) (fun _ _ _ h => h) (Or.inr ⟨by rfl, rfl⟩) ?_ ?_
            rotate_left
            ·simp only [Act.put, sS_, sZ_, sC_, i64_w, i32_w]
             rfl
            refine pure_ (i := 5) (N := some 34) (v := undef) (a' := ?_) D6_63 rfl rfl (any_of HT_.out (by kernel_rfl)) (fun _ _ _ h => h) (Or.inr ⟨by rfl, rfl⟩) ?_ ?_
            rotate_left
            ·simp only [Act.put, sS_, sZ_, sC_, i64_w, i32_w]
             rfl
            refine pure_ (i := 6) (N := some 35) (v := undef) (a' := ?_) D7_63 rfl rfl (any_of HT_.out (by kernel_rfl)) (fun _ _ _ h => h) (Or.inr ⟨by rfl, rfl⟩) ?_ ?_
            rotate_left
            ·simp only [Act.put, sS_, sZ_, sC_, i64_w, i32_w]
             rfl
            refine pure_ (i := 7) (N := some 36) (v := undef) (a' := ?_) D8_63 rfl rfl (any_of HT_.out (by kernel_rfl)) (fun _ _ _ h => h) (Or.inr ⟨by rfl, rfl⟩) ?_ ?_
            rotate_left
            ·simp only [Act.put, sS_, sZ_, sC_, i64_w, i32_w]
             rfl
            refine pure_ (i := 8) (N := some 37) (v := undef) (a' := ?_) D9_63 rfl rfl (any_of HT_.out (by kernel_rfl)) (fun _ _ _ h => h) (Or.inr ⟨by rfl, rfl⟩) ?_ ?_
            rotate_left
            ·simp only [Act.put, sS_, sZ_, sC_, i64_w, i32_w]
             rfl
            refine pure_ (i := 9) (N := some 38) (v := undef) (a' := ?_) D10_63 rfl rfl (any_of HT_.out (by kernel_rfl)) (fun _ _ _ h => h) (Or.inr ⟨by rfl, rfl⟩) ?_ ?_
            rotate_left
            ·simp only [Act.put, sS_, sZ_, sC_, i64_w, i32_w]
             rfl
            refine pure_ (i := 10) (N := some 39) (v := undef) (a' := ?_) D11_63 rfl rfl (any_of HT_.out (by kernel_rfl)) (fun _ _ _ h => h) (Or.inr ⟨by rfl, rfl⟩) ?_ ?_
            rotate_left
            ·simp only [Act.put, sS_, sZ_, sC_, i64_w, i32_w]
             rfl
            refine pure_ (i := 11) (N := some 40) (v := ?_) (a' := ?_) D12_63 rfl rfl (any_of HT_.out (by kernel_rfl)) (fun _ _ _ h => h) (Or.inl ⟨by rfl, ?_⟩) ?_ ?_
            rotate_left
            ·intro w'
             go_simp
             with_reducible rfl
            rotate_left
            ·simp only [Act.put, sS_, sZ_, sC_, i64_w, i32_w]
             rfl
            refine pure_ (i := 12) (N := some 41) (v := ?_) (a' := ?_) D13_63 rfl rfl (any_of HT_.out (by kernel_rfl)) (fun _ _ _ h => h) (Or.inl ⟨by rfl, ?_⟩) ?_ ?_
            rotate_left
            ·intro w'
             go_simp
             with_reducible rfl
            rotate_left
            ·simp only [Act.put, sS_, sZ_, sC_, i64_w, i32_w]
             rfl
            refine pure_ (i := 13) (N := some 42) (v := ?_) (a' := ?_) D14_63 rfl rfl (any_of HT_.out (by kernel_rfl)) (fun _ _ _ h => h) (Or.inl ⟨by rfl, ?_⟩) ?_ ?_
            rotate_left
            ·intro w'
             go_simp
             with_reducible rfl
            rotate_left
            ·simp only [Act.put, sS_, sZ_, sC_, i64_w, i32_w]
             rfl
            refine pure_ (i := 14) (N := some 43) (v := ?_) (a' := ?_) D15_63 rfl rfl (any_of HT_.out (by kernel_rfl)) (fun _ _ _ h => h) (Or.inl ⟨by rfl, ?_⟩) ?_ ?_
            rotate_left
            ·intro w'
             go_simp
             with_reducible rfl
            rotate_left
            ·simp only [Act.put, sS_, sZ_, sC_, i64_w, i32_w]
             rfl
            refine pure_ (i := 15) (N := some 44) (v := ?_) (a' := ?_) D16_63 rfl rfl (any_of HT_.out (by kernel_rfl)) (fun _ _ _ h => h) (Or.inl ⟨by rfl, ?_⟩) ?_ ?_
            rotate_left
            ·intro w'
             go_simp
             with_reducible rfl
            rotate_left
            ·simp only [Act.put, sS_, sZ_, sC_, i64_w, i32_w]
             rfl
            refine take_ (i := 16) (N := some 45) (v := ?_) (a' := ?_) D17_63 rfl rfl (take_ofW HT_.out HW_.out (by kernel_rfl)) (fun _ _ _ h => h) (Or.inl ⟨by rfl, ?_⟩) hHeld ?_ ?_
            rotate_left
            ·rintro w' ⟨s0, s1, s2, s3⟩
             go_simp
             with_reducible rfl
            rotate_left
            ·simp only [Act.put, sS_, sZ_, sC_, i64_w, i32_w]
             rfl
            refine pure_ (i := 17) (N := some 46) (v := ?_) (a' := ?_) D18_63 rfl rfl (any_of HT_.out (by kernel_rfl)) (fun _ _ _ h => h) (Or.inl ⟨by rfl, ?_⟩) ?_ ?_
            rotate_left
            ·intro w'
             go_simp
             with_reducible rfl
            rotate_left
            ·simp only [Act.put, sS_, sZ_, sC_, i64_w, i32_w]
             rfl
            refine one_ (i := 18) (N := some 47) D19_63 rfl rfl (one_of HT_.out (by kernel_rfl)) (by decide) (fun K hK => ?_)
            refine goes_ Try.func131 (by kernel_rfl) rfl #[.slice (some ad216) y225.length c1, .func (.func 114) #[.agg #[.int .i64 ((rd_T76 l1 x24_2).f0), .int .i64 ((rd_T76 l1 x24_2).f1), .int .i64 ((rd_T76 l1 x24_2).f2), .int .i64 ((rd_T76 l1 x24_2).f3)]] #[]] (by rfl) rfl rfl (by (try simp only [List.map_toArray, List.map_cons, List.map_nil]); first | done | rfl | (simp only [List.length_drop, List.length_take]; rfl)) ?_
            with_reducible refine (impl_Hole_131__impl_Hole_meets.calls _ _ y225 ((rd_T76 l1 x24_2).f0) ((rd_T76 l1 x24_2).f1) ((rd_T76 l1 x24_2).f2) ((rd_T76 l1 x24_2).f3) true _ ?side1 ?side2 A55.out).mono ?_
            (case side1 => repeat (first | exact (Kd.C_below HR228.out HB.out) | (with_reducible refine Kd.C_alloc ?_ _) | (with_reducible refine Kd.C_drewN ?_ _) | (with_reducible refine Kd.C_drew ?_)))
            (case side2 => exact HC228.out)
            rintro e w63 ⟨rfl, hb⟩
            refine ⟨_, rfl, ?_⟩
            have n0_ := Aside0.mk (blk_below (g := gb213) (o := .cells #[.int .i64 a0_0, .int .i64 a0_1, .slice A0_2 l0_2.length c0_2] 26 (0, 0)) (by (with_reducible repeat (first | refine blk_drewN ?_ _ | refine blk_drew ?_ | refine blk_alloc ?_ _)); exact BK213.out) hb)
            have n1_ := Aside0.mk (blk_below (g := gb217) (o := .cells #[.int .i64 ((rd_T76 l1 x24_2).f0), .int .i64 ((rd_T76 l1 x24_2).f1), .int .i64 ((rd_T76 l1 x24_2).f2), .int .i64 ((rd_T76 l1 x24_2).f3)] 76 (0, 0)) (by (with_reducible repeat (first | refine blk_drewN ?_ _ | refine blk_drew ?_ | refine blk_alloc ?_ _)); exact BK217.out) hb)
            have n2_ := Aside0.mk (below_step (by repeat (first | (with_reducible first | exact HB.out | apply below_alloc | apply pw_below_drewN | apply below_drew1 | refine below_set ?_ GE213.out | refine below_set ?_ GE217.out) | exact HB.out)) hb)
            clear BK213
            clear BK217
            clear HB
            have BK213 := n0_
            have BK217 := n1_
            have HB := n2_
            clear n0_ n1_ n2_
            (try clear hb)
            (try clear hb2)
            (try clear hk)
            (try clear hi)
            refine hK.out _ _ ⟨(blk_cell BK217.out 0).trans rfl, (blk_cell BK217.out 1).trans rfl, (blk_cell BK217.out 2).trans rfl, (blk_cell BK217.out 3).trans rfl⟩ (fun hHeld => ?_)
            clear hK K
            refine norm_ (a' := ?_) ?_ ?_
            rotate_left
            ·show Act.put _ (some 47) _ = _
             simp only [Act.put, sS_, sZ_, sC_, i64_w, i32_w]
             rfl
            refine pure_ (i := 19) (N := some 48) (v := ?_) (a' := ?_) D20_63 rfl rfl (any_of HT_.out (by kernel_rfl)) (fun _ _ _ h => h) (Or.inl ⟨by rfl, ?_⟩) ?_ ?_
            rotate_left
            ·intro w'
             go_simp
             with_reducible rfl
            rotate_left
            ·simp only [Act.put, sS_, sZ_, sC_, i64_w, i32_w]
             rfl
            refine done_ (done_of HT_.out (by kernel_rfl)) ?_
            try go_wp2
            go_ret
            exact ⟨by first | rfl | (simp [errW_none, errW_some] <;> rfl) | (simp [*, errW_none, errW_some] <;> rfl) | (simp [wrap64]; done), by repeat (first | (with_reducible first | exact HB.out | apply below_alloc | apply pw_below_drewN | apply below_drew1 | refine below_set ?_ GE213.out | refine below_set ?_ GE217.out) | exact HB.out)⟩
           ·replace c56 := Bool.eq_false_iff.mpr c56
            subst c56
            rw [if_neg (show ¬ (false = true) by decide)] at H
            have H' := Aside0.mk H
            clear H
            have p216 : 0 ≤ (x24_2 : Int) := of_decide_eq_true (by first | (with_reducible assumption) | assumption)
            have q216 : x24_2 < (l1.length : Int) := of_decide_eq_true (by first | (with_reducible assumption) | assumption)
            obtain ⟨ad216, e216, hx216_0, hx216_1, hx216_2, hx216_3⟩ := at_T76 HR1.out x24_2 p216 q216
            cases e216
            replace hx216_0 := (HB.out.cell (World.block_lt_of_cell? w _ hx216_0)).trans hx216_0
            replace hx216_1 := (HB.out.cell (World.block_lt_of_cell? w _ hx216_1)).trans hx216_1
            replace hx216_2 := (HB.out.cell (World.block_lt_of_cell? w _ hx216_2)).trans hx216_2
            replace hx216_3 := (HB.out.cell (World.block_lt_of_cell? w _ hx216_3)).trans hx216_3
            replace p216 := eq_true p216
            replace q216 := eq_true q216
            try go_wp2_with (first | ((with_reducible refine gate_dst (N := 6) rfl ?_); (try (refine gate_guard (by rfl) ?_; dsimp only)); refine box_event ?hg (N := 6) ?hd (cs := #[.int .i64 0, .int .i64 0, .int .i64 0, .int .i64 0]) (t := 76) ?hr ?_; (case hd => rfl); (case hg => rfl); (case hr => first | (go_simp; done) | (go_simp; rfl)); intro gb217 hg w64 hbox hb; have n0_ := Aside0.mk (blk_below (g := gb213) (o := .cells #[.int .i64 a0_0, .int .i64 a0_1, .slice A0_2 l0_2.length c0_2] 26 (0, 0)) (by (with_reducible repeat (first | refine blk_drewN ?_ _ | refine blk_drew ?_ | refine blk_alloc ?_ _)); exact BK213.out) hb); have n1_ := Aside0.mk (below_step (by repeat (first | (with_reducible first | exact HB.out | apply below_alloc | apply pw_below_drewN | apply below_drew1 | refine below_set ?_ GE213.out) | exact HB.out)) hb); have n2_ := Aside0.mk (hbox); have n3_ := Aside0.mk ((by rw [hg]; exact (below_size (by repeat (first | (with_reducible first | exact HB.out | apply below_alloc | apply pw_below_drewN | apply below_drew1 | refine below_set ?_ GE213.out) | exact HB.out))) : w.heap.size ≤ gb217)); have n4_ := Aside0.mk ((by rw [hg]; exact (below_size (by repeat (first | (with_reducible first | exact HB.out | apply below_alloc | apply pw_below_drewN | apply below_drew1 | refine below_set ?_ GE213.out) | exact HB.out))) : w.heap.size ≤ gb217)); have n5_ := Aside0.mk ((by rw [hg]; exact Nat.ne_of_lt (blk_lt (g := gb213) (o := .cells #[.int .i64 a0_0, .int .i64 a0_1, .slice A0_2 l0_2.length c0_2] 26 (0, 0)) (by (with_reducible repeat (first | refine blk_drewN ?_ _ | refine blk_drew ?_ | refine blk_alloc ?_ _)); exact BK213.out)) : gb213 ≠ gb217)); have n6_ := Aside0.mk ((by rw [hg]; exact Nat.ne_of_gt (blk_lt (g := gb213) (o := .cells #[.int .i64 a0_0, .int .i64 a0_1, .slice A0_2 l0_2.length c0_2] 26 (0, 0)) (by (with_reducible repeat (first | refine blk_drewN ?_ _ | refine blk_drew ?_ | refine blk_alloc ?_ _)); exact BK213.out)) : gb217 ≠ gb213)); clear BK213; clear HB; have BK213 := n0_; have HB := n1_; have BK217 := n2_; have GW217 := n3_; have GE217 := n4_; have NB213_217 := n5_; have NB217_213 := n6_; clear n0_ n1_ n2_ n3_ n4_ n5_ n6_; clear hb hbox hg; have hnb65 := NB217_213.out; have hnc65 := NB213_217.out; have hcz66_0 : w64.cell? ⟨gb217, 0, none⟩ = some (.int .i64 0) := (blk_cell BK217.out 0).trans rfl; have hcz66_1 : w64.cell? ⟨gb217, 1, none⟩ = some (.int .i64 0) := (blk_cell BK217.out 1).trans rfl; have hcz66_2 : w64.cell? ⟨gb217, 2, none⟩ = some (.int .i64 0) := (blk_cell BK217.out 2).trans rfl; have hcz66_3 : w64.cell? ⟨gb217, 3, none⟩ = some (.int .i64 0) := (blk_cell BK217.out 3).trans rfl; have hfz66_0 := blk_frozen BK217.out 0; have hfz66_1 := blk_frozen BK217.out 1; have hfz66_2 := blk_frozen BK217.out 2; have hfz66_3 := blk_frozen BK217.out 3))
            have n0_ : Aside0 (((((w64.setCell ⟨gb217, 0, none⟩ (.int .i64 ((rd_T76 l1 x24_2).f0))).setCell ⟨gb217, 1, none⟩ (.int .i64 ((rd_T76 l1 x24_2).f1))).setCell ⟨gb217, 2, none⟩ (.int .i64 ((rd_T76 l1 x24_2).f2))).setCell ⟨gb217, 3, none⟩ (.int .i64 ((rd_T76 l1 x24_2).f3))).heap[gb213]? = some (.cells #[.int .i64 a0_0, .int .i64 a0_1, .slice A0_2 l0_2.length c0_2] 26 (0, 0))) := ⟨by (with_reducible repeat (first | refine blk_drewN ?_ _ | refine blk_drew ?_ | refine blk_alloc ?_ _)); refine blk_far ?_ NB213_217.out _; (with_reducible repeat (first | refine blk_drewN ?_ _ | refine blk_drew ?_ | refine blk_alloc ?_ _)); refine blk_far ?_ NB213_217.out _; (with_reducible repeat (first | refine blk_drewN ?_ _ | refine blk_drew ?_ | refine blk_alloc ?_ _)); refine blk_far ?_ NB213_217.out _; (with_reducible repeat (first | refine blk_drewN ?_ _ | refine blk_drew ?_ | refine blk_alloc ?_ _)); refine blk_far ?_ NB213_217.out _; (with_reducible repeat (first | refine blk_drewN ?_ _ | refine blk_drew ?_ | refine blk_alloc ?_ _)); exact BK213.out⟩
            have n1_ : Aside0 (((((w64.setCell ⟨gb217, 0, none⟩ (.int .i64 ((rd_T76 l1 x24_2).f0))).setCell ⟨gb217, 1, none⟩ (.int .i64 ((rd_T76 l1 x24_2).f1))).setCell ⟨gb217, 2, none⟩ (.int .i64 ((rd_T76 l1 x24_2).f2))).setCell ⟨gb217, 3, none⟩ (.int .i64 ((rd_T76 l1 x24_2).f3))).heap[gb217]? = some (.cells #[.int .i64 ((rd_T76 l1 x24_2).f0), .int .i64 ((rd_T76 l1 x24_2).f1), .int .i64 ((rd_T76 l1 x24_2).f2), .int .i64 ((rd_T76 l1 x24_2).f3)] 76 (0, 0))) := ⟨by (with_reducible repeat (first | refine blk_drewN ?_ _ | refine blk_drew ?_ | refine blk_alloc ?_ _)); refine blk_put (cs := #[.int .i64 ((rd_T76 l1 x24_2).f0), .int .i64 ((rd_T76 l1 x24_2).f1), .int .i64 ((rd_T76 l1 x24_2).f2), .int .i64 0]) ?_ 3 _ rfl; (with_reducible repeat (first | refine blk_drewN ?_ _ | refine blk_drew ?_ | refine blk_alloc ?_ _)); refine blk_put (cs := #[.int .i64 ((rd_T76 l1 x24_2).f0), .int .i64 ((rd_T76 l1 x24_2).f1), .int .i64 0, .int .i64 0]) ?_ 2 _ rfl; (with_reducible repeat (first | refine blk_drewN ?_ _ | refine blk_drew ?_ | refine blk_alloc ?_ _)); refine blk_put (cs := #[.int .i64 ((rd_T76 l1 x24_2).f0), .int .i64 0, .int .i64 0, .int .i64 0]) ?_ 1 _ rfl; (with_reducible repeat (first | refine blk_drewN ?_ _ | refine blk_drew ?_ | refine blk_alloc ?_ _)); refine blk_put (cs := #[.int .i64 0, .int .i64 0, .int .i64 0, .int .i64 0]) ?_ 0 _ rfl; (with_reducible repeat (first | refine blk_drewN ?_ _ | refine blk_drew ?_ | refine blk_alloc ?_ _)); exact BK217.out⟩
            have n2_ : Aside0 (Below w.heap.size w ((((w64.setCell ⟨gb217, 0, none⟩ (.int .i64 ((rd_T76 l1 x24_2).f0))).setCell ⟨gb217, 1, none⟩ (.int .i64 ((rd_T76 l1 x24_2).f1))).setCell ⟨gb217, 2, none⟩ (.int .i64 ((rd_T76 l1 x24_2).f2))).setCell ⟨gb217, 3, none⟩ (.int .i64 ((rd_T76 l1 x24_2).f3)))) := ⟨by repeat (first | (with_reducible first | exact HB.out | apply below_alloc | apply pw_below_drewN | apply below_drew1 | refine below_set ?_ GE213.out | refine below_set ?_ GE217.out) | exact HB.out)⟩
            (try clear BK213)
            (try clear BK217)
            (try clear HB)
            generalize ((((w64.setCell ⟨gb217, 0, none⟩ (.int .i64 ((rd_T76 l1 x24_2).f0))).setCell ⟨gb217, 1, none⟩ (.int .i64 ((rd_T76 l1 x24_2).f1))).setCell ⟨gb217, 2, none⟩ (.int .i64 ((rd_T76 l1 x24_2).f2))).setCell ⟨gb217, 3, none⟩ (.int .i64 ((rd_T76 l1 x24_2).f3))) = w67 at n0_ n1_ n2_ ⊢
            have BK213 := n0_
            have BK217 := n1_
            have HB := n2_
            clear n0_ n1_ n2_
            have n0_ := Aside0.mk (blk_drew BK213.out)
            have n1_ := Aside0.mk (blk_drew BK217.out)
            have n2_ := Aside0.mk (below_drew1 HB.out)
            clear BK213
            clear BK217
            clear HB
            have BK213 := n0_
            have BK217 := n1_
            have HB := n2_
            clear n0_ n1_ n2_
            have q69 : (x24_2 : Int) ≤ ((l1.length : Int) : Int) := of_decide_eq_true (by first | (with_reducible assumption) | assumption)
            obtain ⟨i069, hi069, _, hsz69, _⟩ := info_parts info76
            have hroom69 : l1.length ≤ c1 := HC1.out
            have hC69 : Kd.C k76 _ (some ad216) l1.length l1 := HR1.out
            have hcut69 := cut_to (P := Try.prog) 65 76 .i64 Try.underlying65 hi069 (some ad216) l1.length c1 x24_2 (of_decide_eq_true (by first | (with_reducible assumption) | assumption)) q69 hroom69
            have hr69 := Kd.C_take (m := (x24_2 : Int).toNat) hC69 (by omega)
            have hy69 : y225.length = (x24_2 : Int).toNat := (by rw [Ny225.out, List.length_take]; omega)
            rw [← Ny225.out] at hr69
            rw [← hy69] at hcut69
            have HR228 := Aside0.mk hr69
            have HC228 := Aside0.mk (show y225.length ≤ c1 from by omega)
            clear hr69 hC69 hroom69 hi069 hsz69
            have KY69 := Aside0.mk hy69
            clear hy69
            replace q69 := eq_true q69
            refine start_ (n := 20) (S := fun w' => w'.cell? ⟨gb217, 0, none⟩ = some (.int .i64 ((rd_T76 l1 x24_2).f0)) ∧ w'.cell? ⟨gb217, 1, none⟩ = some (.int .i64 ((rd_T76 l1 x24_2).f1)) ∧ w'.cell? ⟨gb217, 2, none⟩ = some (.int .i64 ((rd_T76 l1 x24_2).f2)) ∧ w'.cell? ⟨gb217, 3, none⟩ = some (.int .i64 ((rd_T76 l1 x24_2).f3))) (ds := []) D0_63 (by kernel_rfl) rfl rfl ⟨(blk_cell BK217.out 0).trans rfl, (blk_cell BK217.out 1).trans rfl, (blk_cell BK217.out 2).trans rfl, (blk_cell BK217.out 3).trans rfl⟩ (fun hHeld => ?_); refine with_tabW impl_AreHoles.tab6 impl_AreHoles.bits6 (fun HT_ HW_ => ?_)
            generalize w67.drew = w68 at BK213 BK217 HB HR228 hHeld ⊢
            refine pure_ (i := 0) (N := some 29) (v := ?_) (a' := ?_) D1_63 rfl rfl (any_of HT_.out (by kernel_rfl)) (fun _ _ _ h => h) (Or.inl ⟨by rfl, ?_⟩) ?_ ?_
            rotate_left
            ·intro w'
             go_simp
             with_reducible rfl
            rotate_left
            ·simp only [Act.put, sS_, sZ_, sC_, i64_w, i32_w]
             rfl
            refine pure_ (i := 1) (N := some 30) (v := ?_) (a' := ?_) D2_63 rfl rfl (any_of HT_.out (by kernel_rfl)) (fun _ _ _ h => h) (Or.inl ⟨by rfl, ?_⟩) ?_ ?_
            rotate_left
            ·intro w'
             go_simp
             with_reducible rfl
            rotate_left
            ·simp only [Act.put, sS_, sZ_, sC_, i64_w, i32_w]
             rfl
            refine pure_ (i := 2) (N := some 31) (v := ?_) (a' := ?_) D3_63 rfl rfl (any_of HT_.out (by kernel_rfl)) (fun _ _ _ h => h) (Or.inl ⟨by rfl, ?_⟩) ?_ ?_
            rotate_left
            ·intro w'
             go_simp
             with_reducible rfl
            rotate_left
            ·simp only [Act.put, sS_, sZ_, sC_, i64_w, i32_w]
             rfl
            refine pure_ (i := 3) (N := some 32) (v := undef) (a' := ?_) D4_63 rfl rfl (any_of HT_.out (by kernel_rfl)) (fun _ _ _ h => h) (Or.inr ⟨by rfl, rfl⟩) ?_ ?_
            rotate_left
            ·simp only [Act.put, sS_, sZ_, sC_, i64_w, i32_w]
             rfl
            refine pure_ (i := 4) (N := some 33) (v := undef) (a' := ?_) D5_63 rfl rfl (any_of HT_.out (by kernel_rfl)) (fun _ _ _ h => h) (Or.inr ⟨by rfl, rfl⟩) ?_ ?_
            rotate_left
            ·simp only [Act.put, sS_, sZ_, sC_, i64_w, i32_w]
             rfl
            refine pure_ (i := 5) (N := some 34) (v := undef) (a' := ?_) D6_63 rfl rfl (any_of HT_.out (by kernel_rfl)) (fun _ _ _ h => h) (Or.inr ⟨by rfl, rfl⟩) ?_ ?_
            rotate_left
            ·simp only [Act.put, sS_, sZ_, sC_, i64_w, i32_w]
             rfl
            refine pure_ (i := 6) (N := some 35) (v := undef) (a' := ?_) D7_63 rfl rfl (any_of HT_.out (by kernel_rfl)) (fun _ _ _ h => h) (Or.inr ⟨by rfl, rfl⟩) ?_ ?_
            rotate_left
            ·simp only [Act.put, sS_, sZ_, sC_, i64_w, i32_w]
             rfl
            refine pure_ (i := 7) (N := some 36) (v := undef) (a' := ?_) D8_63 rfl rfl (any_of HT_.out (by kernel_rfl)) (fun _ _ _ h => h) (Or.inr ⟨by rfl, rfl⟩) ?_ ?_
            rotate_left
            ·simp only [Act.put, sS_, sZ_, sC_, i64_w, i32_w]
             rfl
            refine pure_ (i := 8) (N := some 37) (v := undef) (a' := ?_) D9_63 rfl rfl (any_of HT_.out (by kernel_rfl)) (fun _ _ _ h => h) (Or.inr ⟨by rfl, rfl⟩) ?_ ?_
            rotate_left
            ·simp only [Act.put, sS_, sZ_, sC_, i64_w, i32_w]
             rfl
            refine pure_ (i := 9) (N := some 38) (v := undef) (a' := ?_) D10_63 rfl rfl (any_of HT_.out (by kernel_rfl)) (fun _ _ _ h => h) (Or.inr ⟨by rfl, rfl⟩) ?_ ?_
            rotate_left
            ·simp only [Act.put, sS_, sZ_, sC_, i64_w, i32_w]
             rfl
            refine pure_ (i := 10) (N := some 39) (v := undef) (a' := ?_) D11_63 rfl rfl (any_of HT_.out (by kernel_rfl)) (fun _ _ _ h => h) (Or.inr ⟨by rfl, rfl⟩) ?_ ?_
            rotate_left
            ·simp only [Act.put, sS_, sZ_, sC_, i64_w, i32_w]
             rfl
            refine pure_ (i := 11) (N := some 40) (v := ?_) (a' := ?_) D12_63 rfl rfl (any_of HT_.out (by kernel_rfl)) (fun _ _ _ h => h) (Or.inl ⟨by rfl, ?_⟩) ?_ ?_
            rotate_left
            ·intro w'
             go_simp
             with_reducible rfl
            rotate_left
            ·simp only [Act.put, sS_, sZ_, sC_, i64_w, i32_w]
             rfl
            refine pure_ (i := 12) (N := some 41) (v := ?_) (a' := ?_) D13_63 rfl rfl (any_of HT_.out (by kernel_rfl)) (fun _ _ _ h => h) (Or.inl ⟨by rfl, ?_⟩) ?_ ?_
            rotate_left
            ·intro w'
             go_simp
             with_reducible rfl
            rotate_left
            ·simp only [Act.put, sS_, sZ_, sC_, i64_w, i32_w]
             rfl
            refine pure_ (i := 13) (N := some 42) (v := ?_) (a' := ?_) D14_63 rfl rfl (any_of HT_.out (by kernel_rfl)) (fun _ _ _ h => h) (Or.inl ⟨by rfl, ?_⟩) ?_ ?_
            rotate_left
            ·intro w'
             go_simp
             with_reducible rfl
            rotate_left
            ·simp only [Act.put, sS_, sZ_, sC_, i64_w, i32_w]
             rfl
            refine pure_ (i := 14) (N := some 43) (v := ?_) (a' := ?_) D15_63 rfl rfl (any_of HT_.out (by kernel_rfl)) (fun _ _ _ h => h) (Or.inl ⟨by rfl, ?_⟩) ?_ ?_
            rotate_left
            ·intro w'
             go_simp
             with_reducible rfl
            rotate_left
            ·simp only [Act.put, sS_, sZ_, sC_, i64_w, i32_w]
             rfl
            refine pure_ (i := 15) (N := some 44) (v := ?_) (a' := ?_) D16_63 rfl rfl (any_of HT_.out (by kernel_rfl)) (fun _ _ _ h => h) (Or.inl ⟨by rfl, ?_⟩) ?_ ?_
            rotate_left
            ·intro w'
             go_simp
             with_reducible rfl
            rotate_left
            ·simp only [Act.put, sS_, sZ_, sC_, i64_w, i32_w]
             rfl
            refine take_ (i := 16) (N := some 45) (v := ?_) (a' := ?_) D17_63 rfl rfl (take_ofW HT_.out HW_.out (by kernel_rfl)) (fun _ _ _ h => h) (Or.inl ⟨by rfl, ?_⟩) hHeld ?_ ?_
            rotate_left
            ·rintro w' ⟨s0, s1, s2, s3⟩
             go_simp
             with_reducible rfl
            rotate_left
            ·simp only [Act.put, sS_, sZ_, sC_, i64_w, i32_w]
             rfl
            refine pure_ (i := 17) (N := some 46) (v := ?_) (a' := ?_) D18_63 rfl rfl (any_of HT_.out (by kernel_rfl)) (fun _ _ _ h => h) (Or.inl ⟨by rfl, ?_⟩) ?_ ?_
            rotate_left
            ·intro w'
             go_simp
             with_reducible rfl
            rotate_left
            ·simp only [Act.put, sS_, sZ_, sC_, i64_w, i32_w]
             rfl
            refine one_ (i := 18) (N := some 47) D19_63 rfl rfl (one_of HT_.out (by kernel_rfl)) (by decide) (fun K hK => ?_)
            refine goes_ Try.func131 (by kernel_rfl) rfl #[.slice (some ad216) y225.length c1, .func (.func 114) #[.agg #[.int .i64 ((rd_T76 l1 x24_2).f0), .int .i64 ((rd_T76 l1 x24_2).f1), .int .i64 ((rd_T76 l1 x24_2).f2), .int .i64 ((rd_T76 l1 x24_2).f3)]] #[]] (by rfl) rfl rfl (by (try simp only [List.map_toArray, List.map_cons, List.map_nil]); first | done | rfl | (simp only [List.length_drop, List.length_take]; rfl)) ?_
            with_reducible refine (impl_Hole_131__impl_Hole_meets.calls _ _ y225 ((rd_T76 l1 x24_2).f0) ((rd_T76 l1 x24_2).f1) ((rd_T76 l1 x24_2).f2) ((rd_T76 l1 x24_2).f3) false _ ?side1 ?side2 A55.out).mono ?_
            (case side1 => repeat (first | exact (Kd.C_below HR228.out HB.out) | (with_reducible refine Kd.C_alloc ?_ _) | (with_reducible refine Kd.C_drewN ?_ _) | (with_reducible refine Kd.C_drew ?_)))
            (case side2 => exact HC228.out)
            rintro e w70 ⟨rfl, hb⟩
            refine ⟨_, rfl, ?_⟩
            have n0_ := Aside0.mk (blk_below (g := gb213) (o := .cells #[.int .i64 a0_0, .int .i64 a0_1, .slice A0_2 l0_2.length c0_2] 26 (0, 0)) (by (with_reducible repeat (first | refine blk_drewN ?_ _ | refine blk_drew ?_ | refine blk_alloc ?_ _)); exact BK213.out) hb)
            have n1_ := Aside0.mk (blk_below (g := gb217) (o := .cells #[.int .i64 ((rd_T76 l1 x24_2).f0), .int .i64 ((rd_T76 l1 x24_2).f1), .int .i64 ((rd_T76 l1 x24_2).f2), .int .i64 ((rd_T76 l1 x24_2).f3)] 76 (0, 0)) (by (with_reducible repeat (first | refine blk_drewN ?_ _ | refine blk_drew ?_ | refine blk_alloc ?_ _)); exact BK217.out) hb)
            have n2_ := Aside0.mk (below_step (by repeat (first | (with_reducible first | exact HB.out | apply below_alloc | apply pw_below_drewN | apply below_drew1 | refine below_set ?_ GE213.out | refine below_set ?_ GE217.out) | exact HB.out)) hb)
            clear BK213
            clear BK217
            clear HB
            have BK213 := n0_
            have BK217 := n1_
            have HB := n2_
            clear n0_ n1_ n2_
            (try clear hb)
            (try clear hb2)
            (try clear hk)
            (try clear hi)
            refine hK.out _ _ ⟨(blk_cell BK217.out 0).trans rfl, (blk_cell BK217.out 1).trans rfl, (blk_cell BK217.out 2).trans rfl, (blk_cell BK217.out 3).trans rfl⟩ (fun hHeld => ?_)
            clear hK K
            refine norm_ (a' := ?_) ?_ ?_
            rotate_left
            ·show Act.put _ (some 47) _ = _
             simp only [Act.put, sS_, sZ_, sC_, i64_w, i32_w]
             rfl
            refine pure_ (i := 19) (N := some 48) (v := ?_) (a' := ?_) D20_63 rfl rfl (any_of HT_.out (by kernel_rfl)) (fun _ _ _ h => h) (Or.inl ⟨by rfl, ?_⟩) ?_ ?_
            rotate_left
            ·intro w'
             go_simp
             with_reducible rfl
            rotate_left
            ·simp only [Act.put, sS_, sZ_, sC_, i64_w, i32_w]
             rfl
            refine done_ (done_of HT_.out (by kernel_rfl)) ?_
            try go_wp2
            go_roundg k2
            case measure => have := HJ2.out; have := HK2.out; omega
            case rel => exact ⟨(wrap64 (x24_2 + 1)), (by first | rfl | (simp; done) | (simp [*]; done)), H', ⟨by have := HJ2.out; have := HK2.out; omega⟩, ⟨by (with_reducible repeat (first | refine blk_drewN ?_ _ | refine blk_drew ?_ | refine blk_alloc ?_ _)); exact BK213.out⟩, ⟨by repeat (first | (with_reducible first | exact HB.out | apply below_alloc | apply pw_below_drewN | apply below_drew1 | refine below_set ?_ GE213.out | refine below_set ?_ GE217.out) | exact HB.out)⟩⟩
          ·rw [if_neg c54] at H
           exact absurd H (by simp)
        ·rw [if_neg c20] at H
         exact absurd H (by simp)
       ·rw [if_neg c19] at H
        exact absurd H (by simp)
      ·rw [if_neg c18] at H
       have c18b0 : decide (x24_2 < (l1.length : Int)) = false := decide_eq_false c18
       clear c18
       obtain rfl := Option.some.inj H
       go_wp2
       go_ret
       exact ⟨by first | rfl | (simp [errW_none, errW_some] <;> rfl) | (simp [*, errW_none, errW_some] <;> rfl) | (simp [wrap64]; done), by repeat (first | (with_reducible first | exact HB.out | apply below_alloc | apply pw_below_drewN | apply below_drew1 | refine below_set ?_ GE213.out) | exact HB.out)⟩

end Go.Proofs.Ytkglpfdoefdhdaa.Q

namespace Go.Proofs.Ytkglpfdoefdhdaa.M
open Go.RowKit Go.Proofs.Ytkglpfdoefdhdaa.Q Go.Proofs.YtkglpfdoefdhdaaW.PrintWords Go.Proofs.YtkglpfdoefdhdaaW.PrintLast Go.Proofs.YtkglpfdoefdhdaaW.Pl Classical
set_option linter.unusedSimpArgs false
set_option linter.unusedVariables false

/-- cmp.Compare and cmp.Or of two. -/
def cmpI (a b : Int) : Int := if a < b then -1 else if a > b then 1 else 0
def orI (a b : Int) : Int := if a ≠ 0 then a else b
theorem cmp_f (a b : Int) : cmp_Compare_int.f a b = some (cmpI a b) := by
  unfold cmp_Compare_int.f cmp_isNaN_int.f cmpI
  rw [show (a != a) = false by simp, show (b != b) = false by simp]
  simp only [Option.bind_some, Bool.false_eq_true, if_false]
  repeat' split
  all_goals rfl
theorem or_f (a b : Int) : Ev (fun k => cmp_Or_int.f k [a, b]) (orI a b) := by
  have h2 : wrap64 1 = 1 := by unfold wrap64; omega
  have h3 : wrap64 2 = 2 := by unfold wrap64; omega
  have h0 : cmp_Or_int.f 4 [a, b] = some (orI a b) := by
    unfold cmp_Or_int.f orI
    by_cases h : a = 0
    · by_cases h' : b = 0
      · simp [cmp_Or_int.l0, rd, h2, h3, h, h']
      · simp [cmp_Or_int.l0, rd, h2, h3, h, h']
    · simp [cmp_Or_int.l0, rd, h2, h3, h]
  exact ⟨4, fun k hk => at_rounds (cmp_Or_int.mono [a, b]) hk h0⟩
theorem iComp (x y : S76) : Ev (fun k => impl_Hole_compare.f k x.f0 x.f1 x.f2 x.f3 y.f0 y.f1 y.f2 y.f3) (orI (cmpI x.f0 y.f0) (cmpI x.f1 y.f1)) := by
  unfold impl_Hole_compare.f
  simp only [cmp_f, Option.bind_some]
  exact Ev.bind (or_f _ _) (Ev.now _)
theorem comp_bef (x y : S76) : orI (cmpI x.f0 y.f0) (cmpI x.f1 y.f1) ≥ 0 ↔ befH x y = false := by
  unfold befH
  rw [decide_eq_false_iff_not]
  unfold orI cmpI
  repeat' split
  all_goals omega
theorem iPlace (w h : Int) (c : List Int) (a b : Int) : impl_Chart_hasPlace.f w h c a b = some (decide ((0 ≤ a ∧ a ≤ wrap64 (h - 1)) ∧ 0 ≤ b ∧ b ≤ wrap64 (w - 1))) := by
  unfold impl_Chart_hasPlace.f
  simp only [iIn, Option.bind_some]
  by_cases h1 : 0 ≤ a ∧ a ≤ wrap64 (h - 1) <;> simp [h1]
theorem iIsHole {w h : Int} {c : List Int} (hg : goodC w h c = true) (x : S76) : impl_Chart_isHole.f w h c x.f0 x.f1 x.f2 x.f3 = some (okH w h x) := by
  obtain ⟨h1, h2, _⟩ := goodC_at hg
  unfold impl_Chart_isHole.f okH
  rw [iPlace, iPlace, w64 (x := h - 1) (by omega), w64 (x := w - 1) (by omega)]
  simp only [Option.bind_some]
  by_cases g1 : (0 ≤ x.f0 ∧ x.f0 ≤ h - 1) ∧ 0 ≤ x.f1 ∧ x.f1 ≤ w - 1
  · by_cases g2 : (0 ≤ x.f2 ∧ x.f2 ≤ h - 1) ∧ 0 ≤ x.f3 ∧ x.f3 ≤ w - 1
    · by_cases g3 : x.f0 ≤ x.f2
      · simp only [decide_eq_true g1, decide_eq_true g2, if_true, if_pos g3]
        congr 1
        rw [decide_eq_decide]
        omega
      · simp only [decide_eq_true g1, decide_eq_true g2, if_true, if_neg g3]
        rw [decide_eq_false (by omega)]
    · simp only [decide_eq_true g1, decide_eq_false g2, if_true, Bool.false_eq_true, if_false]
      rw [decide_eq_false (by omega)]
  · simp only [decide_eq_false g1, Bool.false_eq_true, if_false]
    rw [decide_eq_false (by omega)]
theorem free_take (l : List S76) (i : Nat) (hi : i < l.length) : freeH l i = !((l.take i).any fun x => meetH (nth l i z76) x) := by
  rw [Bool.eq_iff_iff, Bool.not_eq_true', List.any_eq_false]
  unfold freeH
  rw [range_all]
  constructor
  · intro h x hx
    obtain ⟨k, hk, rfl⟩ := List.mem_iff_getElem.1 hx
    rw [List.length_take] at hk
    have := h k (by omega)
    rw [List.getElem_take, meet_comm, ← nth_get (z := z76)]
    simpa using this
  · intro h k hk
    have := h (l[k]'(by omega)) (by
      rw [List.mem_iff_getElem]
      exact ⟨k, by rw [List.length_take]; omega, by rw [List.getElem_take]⟩)
    rw [meet_comm, ← nth_get (z := z76)] at this
    simpa using this
theorem iHoles (w h : Int) (c : List Int) (l : List S76) (hl : l.length ≤ 1048576) : Ev (fun k => impl_AreHoles.f k w h c l) (goodH w h c l) := by
  unfold impl_AreHoles.f
  rw [iChart]
  have j0t : Ev (fun k => impl_AreHoles.j0 k l true) false := by
    refine Ev.succ ?_
    simp only [impl_AreHoles.j0, if_true]
    exact Ev.now _
  simp only [Option.bind_some]
  cases hg : goodC w h c with
  | false =>
    simp only [Bool.false_eq_true, if_false]
    have : goodH w h c l = false := by unfold goodH; rw [hg]; simp
    rw [this]
    exact j0t
  | true =>
    simp only [if_true]
    by_cases h8 : l.length ≤ 8
    · simp only [if_neg (show ¬ (l.length : Int) > 8 by omega)]
      unfold impl_Hole_129__impl_Chart_isHole.f
      rw [all_total (p := okH w h) (fun x _ => iIsHole hg x), all_nth (p := okH w h) z76]
      simp only [Option.bind_some]
      by_cases ha : ((List.range l.length).all fun i => okH w h (nth l i z76)) = true
      · simp only [ha, Bool.not_true]
        refine Ev.succ ?_
        simp only [impl_AreHoles.j0, Bool.false_eq_true, if_false]
        have hs := scanE l.length (fun i => ascH l i && freeH l i) true false (fun k i => impl_AreHoles.l0 k l l (l.length : Int) i) ?hs ?hb ?he
        case hs =>
          intro i r hi ho hr
          rw [Bool.and_eq_true] at ho
          obtain ⟨h1, h2⟩ := ho
          rw [free_take l i hi] at h2
          have h2' : ((l.take i).any fun x => meetH (nth l i z76) x) = false := by simpa using h2
          refine Ev.succ ?_
          by_cases h0 : i = 0
          · simp only [impl_AreHoles.l0, rd76, if_pos (show (i : Int) < (l.length : Int) by omega), if_pos (show (0 : Int) ≤ (i : Int) by omega), if_neg (show ¬ (i : Int) > 0 by omega), if_pos (show (i : Int) ≤ (l.length : Int) by omega), Int.toNat_natCast, iAnyMeets, Option.bind_some, h2', Bool.false_eq_true, if_false, stepI i (by omega)]
            exact hr
          · have hb : befH (nth l (i - 1) z76) (nth l i z76) = true := by
              unfold ascH at h1
              rw [Bool.or_eq_true, decide_eq_true_iff] at h1
              exact h1.resolve_left h0
            simp only [impl_AreHoles.l0, rd76, if_pos (show (i : Int) < (l.length : Int) by omega), if_pos (show (0 : Int) ≤ (i : Int) by omega), if_pos (show (i : Int) > 0 by omega), predI i (by omega), if_pos (show (0 : Int) ≤ ((i - 1 : Nat) : Int) by omega), if_pos (show ((i - 1 : Nat) : Int) < (l.length : Int) by omega)]
            refine Ev.bind (iComp _ _) ?_
            have hn : ¬ orI (cmpI (nth l (i - 1) z76).f0 (nth l i z76).f0) (cmpI (nth l (i - 1) z76).f1 (nth l i z76).f1) ≥ 0 := fun hh => by rw [(comp_bef _ _).1 hh] at hb; cases hb
            simp only [if_neg hn, if_pos (show (i : Int) ≤ (l.length : Int) by omega), Int.toNat_natCast, iAnyMeets, Option.bind_some, h2', Bool.false_eq_true, if_false, stepI i (by omega)]
            exact hr
        case hb =>
          intro i hi ho
          refine Ev.succ ?_
          by_cases h0 : i = 0
          · have h2' : ((l.take i).any fun x => meetH (nth l i z76) x) = true := by
              rw [free_take l i hi] at ho
              exfalso
              simp [ascH, h0] at ho
            simp only [impl_AreHoles.l0, rd76, if_pos (show (i : Int) < (l.length : Int) by omega), if_pos (show (0 : Int) ≤ (i : Int) by omega), if_neg (show ¬ (i : Int) > 0 by omega), if_pos (show (i : Int) ≤ (l.length : Int) by omega), Int.toNat_natCast, iAnyMeets, Option.bind_some, h2', if_true]
            exact Ev.now _
          · simp only [impl_AreHoles.l0, rd76, if_pos (show (i : Int) < (l.length : Int) by omega), if_pos (show (0 : Int) ≤ (i : Int) by omega), if_pos (show (i : Int) > 0 by omega), predI i (by omega), if_pos (show (0 : Int) ≤ ((i - 1 : Nat) : Int) by omega), if_pos (show ((i - 1 : Nat) : Int) < (l.length : Int) by omega)]
            refine Ev.bind (iComp _ _) ?_
            by_cases hb : befH (nth l (i - 1) z76) (nth l i z76) = true
            · have hn : ¬ orI (cmpI (nth l (i - 1) z76).f0 (nth l i z76).f0) (cmpI (nth l (i - 1) z76).f1 (nth l i z76).f1) ≥ 0 := fun hh => by rw [(comp_bef _ _).1 hh] at hb; cases hb
              have h2' : ((l.take i).any fun x => meetH (nth l i z76) x) = true := by
                rw [free_take l i hi] at ho
                unfold ascH at ho
                simpa [h0, hb] using ho
              simp only [if_neg hn, if_pos (show (i : Int) ≤ (l.length : Int) by omega), Int.toNat_natCast, iAnyMeets, Option.bind_some, h2', if_true]
              exact Ev.now _
            · have hn : orI (cmpI (nth l (i - 1) z76).f0 (nth l i z76).f0) (cmpI (nth l (i - 1) z76).f1 (nth l i z76).f1) ≥ 0 := (comp_bef _ _).2 (by simpa using hb)
              simp only [if_pos hn]
              exact Ev.now _
        case he =>
          refine Ev.succ ?_
          simp only [impl_AreHoles.l0, if_neg (show ¬ ((l.length : Int) < (l.length : Int)) by omega)]
          exact Ev.now _
        have e : (if ((List.range l.length).all fun i => ascH l i && freeH l i) = true then true else false) = goodH w h c l := by
          unfold goodH
          rw [hg, decide_eq_true h8]
          simp only [Bool.true_and]
          have e2 : ((List.range l.length).all fun i => holeAt w h l i) = ((List.range l.length).all fun i => ascH l i && freeH l i) := by
            rw [Bool.eq_iff_iff, range_all, range_all]
            rw [range_all] at ha
            exact ⟨fun hh i hi => by have := hh i hi; unfold holeAt at this; rw [Bool.and_eq_true] at this; exact this.2, fun hh i hi => by unfold holeAt; rw [ha i hi, hh i hi]; rfl⟩
          rw [e2]
          generalize (List.range l.length).all _ = b
          cases b <;> rfl
        rw [e] at hs
        exact hs
      · have hf : ((List.range l.length).all fun i => okH w h (nth l i z76)) = false := by simpa using ha
        simp only [hf, Bool.not_false]
        have : goodH w h c l = false := by
          cases hh : goodH w h c l with
          | false => rfl
          | true =>
            refine absurd ?_ ha
            rw [range_all]
            intro i hi
            have := (goodH_at hh).2.2 i hi
            unfold holeAt at this
            rw [Bool.and_eq_true] at this
            exact this.1
        rw [this]
        exact j0t
    · simp only [if_pos (show (l.length : Int) > 8 by omega)]
      have : goodH w h c l = false := by unfold goodH; rw [decide_eq_false h8]; simp
      rw [this]
      exact j0t
end Go.Proofs.Ytkglpfdoefdhdaa.M

namespace Go.Proofs.Ytkglpfdoefdhdaa.Q
open Go.RowKit Go.Proofs.YtkglpfdoefdhdaaW.PrintWords Go.Proofs.YtkglpfdoefdhdaaW.PrintLast Go.Proofs.YtkglpfdoefdhdaaW.PrintMore
attribute [local go_sem] max2_int min2_int max_two min_two max_three min_three max_four min_four
set_option linter.unusedVariables false
set_option linter.unusedSimpArgs false

/-! ### spec_l23Minutes: function 123 -/
mutual
def spec_l23Minutes.l0 : Nat → Int → Int → Int → Int → Int → List Int → Int → Int → Int → Int → Option (Int)
 | 0, _, _, _, _, _, _, _, _, _, _ => none
 | k + 1, x5, x6, x7, x319000, x319001, x319002, x320000, x320001, x320002, x320003 => if x7 ≥ x320000 then (spec_l23Minutes.l1 k x5 x6 x7 x320001 x319000 x319001 x319002 x320000 x320001 x320002 x320003) else (some x5)
def spec_l23Minutes.l1 : Nat → Int → Int → Int → Int → Int → Int → List Int → Int → Int → Int → Int → Option (Int)
 | 0, _, _, _, _, _, _, _, _, _, _, _ => none
 | k + 1, x5, x6, x7, x8, x319000, x319001, x319002, x320000, x320001, x320002, x320003 => if x8 ≤ x320003 then ((spec_l2At.f x319000 x319001 x319002 x7 x8).bind fun t321 => (if t321 = x6 then (spec_l23Minutes.l1 k x5 x6 x7 (wrap64 (x8 + 1)) x319000 x319001 x319002 x320000 x320001 x320002 x320003) else (if x6 ≥ 0 then (spec_l23Minutes.l1 k (wrap64 (x5 + 1)) t321 x7 (wrap64 (x8 + 1)) x319000 x319001 x319002 x320000 x320001 x320002 x320003) else (spec_l23Minutes.l1 k x5 t321 x7 (wrap64 (x8 + 1)) x319000 x319001 x319002 x320000 x320001 x320002 x320003)))) else (spec_l23Minutes.l0 k x5 x6 (wrap64 (x7 - 1)) x319000 x319001 x319002 x320000 x320001 x320002 x320003)
end
def spec_l23Minutes.f (k : Nat) (a0_0 : Int) (a0_1 : Int) (l0_2 : List Int) (a1_0 : Int) (a1_1 : Int) (a1_2 : Int) (a1_3 : Int) : Option (Int) := (spec_l23Knots.f a1_0 a1_1 a1_2 a1_3).bind fun t320 => (spec_l23Minutes.l0 k (wrap64 (2 * t320)) (-1) a1_2 a0_0 a0_1 l0_2 a1_0 a1_1 a1_2 a1_3)
set_option maxHeartbeats 8000000 in
set_option maxRecDepth 100000 in
theorem spec_l23Minutes.calls (k : Nat) (a0_0 : Int) (a0_1 : Int) (A0_2 : Option Addr) (c0_2 : Nat) (l0_2 : List Int) (a1_0 : Int) (a1_1 : Int) (a1_2 : Int) (a1_3 : Int) (r : Int) (w : World) (hr0_2 : Kd.C (Kd.int .i64) w A0_2 l0_2.length l0_2) (hc0_2 : l0_2.length ≤ c0_2) (h : spec_l23Minutes.f k a0_0 a0_1 l0_2 a1_0 a1_1 a1_2 a1_3 = some r) :
  Calls Try.prog 123 #[.agg #[.int .i64 a0_0, .int .i64 a0_1, .slice A0_2 l0_2.length c0_2], .agg #[.int .i64 a1_0, .int .i64 a1_1, .int .i64 a1_2, .int .i64 a1_3]] w fun e w' => e = .returned (.int .i64 r) ∧ Below w.heap.size w w' := by
 have hu26 := Try.underlying26
 have hu76 := Try.underlying76
 have HR0_2 := Aside0.mk hr0_2
 have HC0_2 := Aside0.mk hc0_2
 clear hr0_2 hc0_2
 have HB := Aside0.mk (Below.refl w.heap.size w)
 have H : ((spec_l23Knots.f a1_0 a1_1 a1_2 a1_3).bind fun t320 => (spec_l23Minutes.l0 k (wrap64 (2 * t320)) (-1) a1_2 a0_0 a0_1 l0_2 a1_0 a1_1 a1_2 a1_3)) = some r := h
 clear h
 replace H := Option.bind_eq_some_iff.mp H
 obtain ⟨t320, A30, H⟩ := H
 have A3 := Aside0.mk A30
 clear A30
 have H' := Aside0.mk H
 clear H
 go_enter Try.func123, Try.ntmps123
 go_wp2_with (first | ((with_reducible refine gate_dst (N := 2) rfl ?_); refine box_event ?hg (N := 2) ?hd (cs := #[.int .i64 a0_0, .int .i64 a0_1, .slice A0_2 l0_2.length c0_2]) (t := 26) ?hr ?_; (case hd => rfl); (case hg => rfl); (case hr => first | (go_simp; done) | (go_simp; rfl)); intro gb318 hg w4 hbox hb; have n0_ := Aside0.mk (below_step (by repeat (first | (with_reducible first | exact HB.out | apply below_alloc | apply pw_below_drewN | apply below_drew1) | exact HB.out)) hb); have n1_ := Aside0.mk (hbox); have n2_ := Aside0.mk ((by rw [hg]; exact (below_size (by repeat (first | (with_reducible first | exact HB.out | apply below_alloc | apply pw_below_drewN | apply below_drew1) | exact HB.out))) : w.heap.size ≤ gb318)); have n3_ := Aside0.mk ((by rw [hg]; exact (below_size (by repeat (first | (with_reducible first | exact HB.out | apply below_alloc | apply pw_below_drewN | apply below_drew1) | exact HB.out))) : w.heap.size ≤ gb318)); clear HB; have HB := n0_; have BK318 := n1_; have GW318 := n2_; have GE318 := n3_; clear n0_ n1_ n2_ n3_; clear hb hbox hg) | ((with_reducible refine gate_dst (N := 3) rfl ?_); refine box_event ?hg (N := 3) ?hd (cs := #[.int .i64 a1_0, .int .i64 a1_1, .int .i64 a1_2, .int .i64 a1_3]) (t := 76) ?hr ?_; (case hd => rfl); (case hg => rfl); (case hr => first | (go_simp; done) | (go_simp; rfl)); intro gb319 hg w5 hbox hb; have n0_ := Aside0.mk (blk_below (g := gb318) (o := .cells #[.int .i64 a0_0, .int .i64 a0_1, .slice A0_2 l0_2.length c0_2] 26 (0, 0)) (by (with_reducible repeat (first | refine blk_drewN ?_ _ | refine blk_drew ?_ | refine blk_alloc ?_ _)); exact BK318.out) hb); have n1_ := Aside0.mk (below_step (by repeat (first | (with_reducible first | exact HB.out | apply below_alloc | apply pw_below_drewN | apply below_drew1 | refine below_set ?_ GE318.out) | exact HB.out)) hb); have n2_ := Aside0.mk (hbox); have n3_ := Aside0.mk ((by rw [hg]; exact (below_size (by repeat (first | (with_reducible first | exact HB.out | apply below_alloc | apply pw_below_drewN | apply below_drew1 | refine below_set ?_ GE318.out) | exact HB.out))) : w.heap.size ≤ gb319)); have n4_ := Aside0.mk ((by rw [hg]; exact (below_size (by repeat (first | (with_reducible first | exact HB.out | apply below_alloc | apply pw_below_drewN | apply below_drew1 | refine below_set ?_ GE318.out) | exact HB.out))) : w.heap.size ≤ gb319)); have n5_ := Aside0.mk ((by rw [hg]; exact Nat.ne_of_lt (blk_lt (g := gb318) (o := .cells #[.int .i64 a0_0, .int .i64 a0_1, .slice A0_2 l0_2.length c0_2] 26 (0, 0)) (by (with_reducible repeat (first | refine blk_drewN ?_ _ | refine blk_drew ?_ | refine blk_alloc ?_ _)); exact BK318.out)) : gb318 ≠ gb319)); have n6_ := Aside0.mk ((by rw [hg]; exact Nat.ne_of_gt (blk_lt (g := gb318) (o := .cells #[.int .i64 a0_0, .int .i64 a0_1, .slice A0_2 l0_2.length c0_2] 26 (0, 0)) (by (with_reducible repeat (first | refine blk_drewN ?_ _ | refine blk_drew ?_ | refine blk_alloc ?_ _)); exact BK318.out)) : gb319 ≠ gb318)); clear BK318; clear HB; have BK318 := n0_; have HB := n1_; have BK319 := n2_; have GW319 := n3_; have GE319 := n4_; have NB318_319 := n5_; have NB319_318 := n6_; clear n0_ n1_ n2_ n3_ n4_ n5_ n6_; clear hb hbox hg; have hnb6 := NB319_318.out; have hnc6 := NB318_319.out; have hcz7_0 : w5.cell? ⟨gb319, 0, none⟩ = some (.int .i64 a1_0) := (blk_cell BK319.out 0).trans rfl; have hcz7_1 : w5.cell? ⟨gb319, 1, none⟩ = some (.int .i64 a1_1) := (blk_cell BK319.out 1).trans rfl; have hcz7_2 : w5.cell? ⟨gb319, 2, none⟩ = some (.int .i64 a1_2) := (blk_cell BK319.out 2).trans rfl; have hcz7_3 : w5.cell? ⟨gb319, 3, none⟩ = some (.int .i64 a1_3) := (blk_cell BK319.out 3).trans rfl; have hfz7_0 := blk_frozen BK319.out 0; have hfz7_1 := blk_frozen BK319.out 1; have hfz7_2 := blk_frozen BK319.out 2; have hfz7_3 := blk_frozen BK319.out 3) | ((with_reducible refine gate_callee (f := 128) rfl ?_); refine goesL_ (some 11) rfl rfl Try.func128 (by kernel_rfl) rfl #[.agg #[.int .i64 a1_0, .int .i64 a1_1, .int .i64 a1_2, .int .i64 a1_3]] rfl (by (try simp only [List.map_toArray, List.map_cons, List.map_nil]); first | done | rfl | (simp only [List.length_drop, List.length_take]; rfl)) ?_; (with_reducible refine (spec_l23Knots.calls a1_0 a1_1 a1_2 a1_3 t320 _ A3.out).mono ?_); rintro e w8 ⟨rfl, hb⟩; refine ⟨_, rfl, ?_⟩; have n0_ := Aside0.mk (blk_below (g := gb318) (o := .cells #[.int .i64 a0_0, .int .i64 a0_1, .slice A0_2 l0_2.length c0_2] 26 (0, 0)) (by (with_reducible repeat (first | refine blk_drewN ?_ _ | refine blk_drew ?_ | refine blk_alloc ?_ _)); exact BK318.out) hb); have n1_ := Aside0.mk (blk_below (g := gb319) (o := .cells #[.int .i64 a1_0, .int .i64 a1_1, .int .i64 a1_2, .int .i64 a1_3] 76 (0, 0)) (by (with_reducible repeat (first | refine blk_drewN ?_ _ | refine blk_drew ?_ | refine blk_alloc ?_ _)); exact BK319.out) hb); have n2_ := Aside0.mk (below_step (by repeat (first | (with_reducible first | exact HB.out | apply below_alloc | apply pw_below_drewN | apply below_drew1 | refine below_set ?_ GE318.out | refine below_set ?_ GE319.out) | exact HB.out)) hb); clear BK318; clear BK319; clear HB; have BK318 := n0_; have BK319 := n1_; have HB := n2_; clear n0_ n1_ n2_; (try clear hb); (try clear hb2); (try clear hk); (try clear hi); have hcz9_0 : w8.cell? ⟨gb319, 0, none⟩ = some (.int .i64 a1_0) := (blk_cell BK319.out 0).trans rfl; have hcz9_1 : w8.cell? ⟨gb319, 1, none⟩ = some (.int .i64 a1_1) := (blk_cell BK319.out 1).trans rfl; have hcz9_2 : w8.cell? ⟨gb319, 2, none⟩ = some (.int .i64 a1_2) := (blk_cell BK319.out 2).trans rfl; have hcz9_3 : w8.cell? ⟨gb319, 3, none⟩ = some (.int .i64 a1_3) := (blk_cell BK319.out 3).trans rfl; have hfz9_0 := blk_frozen BK319.out 0; have hfz9_1 := blk_frozen BK319.out 1; have hfz9_2 := blk_frozen BK319.out 2; have hfz9_3 := blk_frozen BK319.out 3))
 go_loopg [5, 6, 7] k (fun kq v5 v6 v7 w' => ∃ (x5_1 : Int) (x6_1 : Int) (x7_1 : Int), v5 = .int .i64 x5_1 ∧ v6 = .int .i64 x6_1 ∧ v7 = .int .i64 x7_1 ∧ Aside0 (spec_l23Minutes.l0 kq x5_1 x6_1 x7_1 a0_0 a0_1 l0_2 a1_0 a1_1 a1_2 a1_3 = some r) ∧ Aside0 (kq ≤ k) ∧ Aside0 (w'.heap[gb318]? = some (.cells #[.int .i64 a0_0, .int .i64 a0_1, (.slice A0_2 l0_2.length c0_2)] 26 (0, 0))) ∧ Aside0 (w'.heap[gb319]? = some (.cells #[.int .i64 a1_0, .int .i64 a1_1, .int .i64 a1_2, .int .i64 a1_3] 76 (0, 0))) ∧ Aside0 (Below w.heap.size w w'))
 case atStart => exact ⟨(wrap64 (2 * t320)), ((-1)), (a1_2), (by first | rfl | (simp; done) | (simp [*]; done)), (by first | rfl | (simp; done) | (simp [*]; done)), (by first | rfl | (simp; done) | (simp [*]; done)), H', ⟨Nat.le_refl _⟩, ⟨by (with_reducible repeat (first | refine blk_drewN ?_ _ | refine blk_drew ?_ | refine blk_alloc ?_ _)); exact BK318.out⟩, ⟨by (with_reducible repeat (first | refine blk_drewN ?_ _ | refine blk_drew ?_ | refine blk_alloc ?_ _)); exact BK319.out⟩, ⟨by repeat (first | (with_reducible first | exact HB.out | apply below_alloc | apply pw_below_drewN | apply below_drew1 | refine below_set ?_ GE318.out | refine below_set ?_ GE319.out) | exact HB.out)⟩⟩
 case round =>
  clear H'
  try clear c1
  try clear p2
  try clear c6
  try clear p6
  try clear hcz7_0
  try clear hcz7_1
  try clear hcz7_2
  try clear hcz7_3
  try clear hcz9_0
  try clear hcz9_1
  try clear hcz9_2
  try clear hcz9_3
  try clear hfz7_0
  try clear hfz7_1
  try clear hfz7_2
  try clear hfz7_3
  try clear hfz9_0
  try clear hfz9_1
  try clear hfz9_2
  try clear hfz9_3
  obtain ⟨x5_1, x6_1, x7_1, rfl, rfl, rfl, HA, HK1, BK318, BK319, HB⟩ := hrel
  cases gk with
  | zero => exact absurd HA.out (by simp [spec_l23Minutes.l0])
  | succ k1 =>
   have H := HA.out
   clear HA
   simp only [spec_l23Minutes.l0] at H
   by_cases c10 : x7_1 ≥ a1_0
   ·rw [if_pos c10] at H
    have c10b0 : decide (a1_0 ≤ x7_1) = true := decide_eq_true c10
    clear c10
    have H' := Aside0.mk H
    clear H
    have hnb11 := NB319_318.out
    have hnc11 := NB318_319.out
    have hcz12_0 : wr.cell? ⟨gb319, 0, none⟩ = some (.int .i64 a1_0) := (blk_cell BK319.out 0).trans rfl
    have hcz12_1 : wr.cell? ⟨gb319, 1, none⟩ = some (.int .i64 a1_1) := (blk_cell BK319.out 1).trans rfl
    have hcz12_2 : wr.cell? ⟨gb319, 2, none⟩ = some (.int .i64 a1_2) := (blk_cell BK319.out 2).trans rfl
    have hcz12_3 : wr.cell? ⟨gb319, 3, none⟩ = some (.int .i64 a1_3) := (blk_cell BK319.out 3).trans rfl
    have hfz12_0 := blk_frozen BK319.out 0
    have hfz12_1 := blk_frozen BK319.out 1
    have hfz12_2 := blk_frozen BK319.out 2
    have hfz12_3 := blk_frozen BK319.out 3
    go_wp2
    go_loopg [5, 6, 8] k1 (fun kq v5 v6 v8 w' => ∃ (x5_2 : Int) (x6_2 : Int) (x8_2 : Int), v5 = .int .i64 x5_2 ∧ v6 = .int .i64 x6_2 ∧ v8 = .int .i64 x8_2 ∧ Aside0 (spec_l23Minutes.l1 kq x5_2 x6_2 x7_1 x8_2 a0_0 a0_1 l0_2 a1_0 a1_1 a1_2 a1_3 = some r) ∧ Aside0 (kq ≤ k1) ∧ Aside0 (w'.heap[gb318]? = some (.cells #[.int .i64 a0_0, .int .i64 a0_1, (.slice A0_2 l0_2.length c0_2)] 26 (0, 0))) ∧ Aside0 (w'.heap[gb319]? = some (.cells #[.int .i64 a1_0, .int .i64 a1_1, .int .i64 a1_2, .int .i64 a1_3] 76 (0, 0))) ∧ Aside0 (Below w.heap.size w w'))
    case atStart => exact ⟨(x5_1), (x6_1), (a1_1), (by first | rfl | (simp; done) | (simp [*]; done)), (by first | rfl | (simp; done) | (simp [*]; done)), (by first | rfl | (simp; done) | (simp [*]; done)), H', ⟨Nat.le_refl _⟩, ⟨by (with_reducible repeat (first | refine blk_drewN ?_ _ | refine blk_drew ?_ | refine blk_alloc ?_ _)); exact BK318.out⟩, ⟨by (with_reducible repeat (first | refine blk_drewN ?_ _ | refine blk_drew ?_ | refine blk_alloc ?_ _)); exact BK319.out⟩, ⟨by repeat (first | (with_reducible first | exact HB.out | apply below_alloc | apply pw_below_drewN | apply below_drew1 | refine below_set ?_ GE318.out | refine below_set ?_ GE319.out) | exact HB.out)⟩⟩
    case round =>
     clear H'
     try clear c1
     try clear p2
     try clear c6
     try clear p6
     try clear c10
     try clear c10b0
     try clear c11
     try clear c12
     try clear hcz12_0
     try clear hcz12_1
     try clear hcz12_2
     try clear hcz12_3
     try clear hcz7_0
     try clear hcz7_1
     try clear hcz7_2
     try clear hcz7_3
     try clear hcz9_0
     try clear hcz9_1
     try clear hcz9_2
     try clear hcz9_3
     try clear hfz12_0
     try clear hfz12_1
     try clear hfz12_2
     try clear hfz12_3
     try clear hfz7_0
     try clear hfz7_1
     try clear hfz7_2
     try clear hfz7_3
     try clear hfz9_0
     try clear hfz9_1
     try clear hfz9_2
     try clear hfz9_3
     try clear p2
     try clear p6
     obtain ⟨x5_2, x6_2, x8_2, rfl, rfl, rfl, HA, HK2, BK318, BK319, HB⟩ := hrel
     cases gk with
     | zero => exact absurd HA.out (by simp [spec_l23Minutes.l1])
     | succ k2 =>
      have H := HA.out
      clear HA
      simp only [spec_l23Minutes.l1] at H
      by_cases c13 : x8_2 ≤ a1_3
      ·rw [if_pos c13] at H
       have c13b0 : decide (x8_2 ≤ a1_3) = true := decide_eq_true c13
       clear c13
       replace H := Option.bind_eq_some_iff.mp H
       obtain ⟨t321, A140, H⟩ := H
       have A14 := Aside0.mk A140
       clear A140
       by_cases c15 : t321 = x6_2
       ·rw [if_pos c15] at H
        have c15b0 : (t321 == x6_2) = true := beq_iff_eq.mpr c15
        have c15b1 : (t321 != x6_2) = false := bne_eq_false_iff_eq.mpr c15
        clear c15
        have H' := Aside0.mk H
        clear H
        have hnb16 := NB319_318.out
        have hnc16 := NB318_319.out
        have hcz17_0 : wr.cell? ⟨gb319, 0, none⟩ = some (.int .i64 a1_0) := (blk_cell BK319.out 0).trans rfl
        have hcz17_1 : wr.cell? ⟨gb319, 1, none⟩ = some (.int .i64 a1_1) := (blk_cell BK319.out 1).trans rfl
        have hcz17_2 : wr.cell? ⟨gb319, 2, none⟩ = some (.int .i64 a1_2) := (blk_cell BK319.out 2).trans rfl
        have hcz17_3 : wr.cell? ⟨gb319, 3, none⟩ = some (.int .i64 a1_3) := (blk_cell BK319.out 3).trans rfl
        have hfz17_0 := blk_frozen BK319.out 0
        have hfz17_1 := blk_frozen BK319.out 1
        have hfz17_2 := blk_frozen BK319.out 2
        have hfz17_3 := blk_frozen BK319.out 3
        have hcz18_0 : wr.cell? ⟨gb318, 0, none⟩ = some (.int .i64 a0_0) := (blk_cell BK318.out 0).trans rfl
        have hcz18_1 : wr.cell? ⟨gb318, 1, none⟩ = some (.int .i64 a0_1) := (blk_cell BK318.out 1).trans rfl
        have hcz18_2 : wr.cell? ⟨gb318, 2, none⟩ = some (.slice A0_2 l0_2.length c0_2) := (blk_cell BK318.out 2).trans rfl
        have hfz18_0 := blk_frozen BK318.out 0
        have hfz18_1 := blk_frozen BK318.out 1
        have hfz18_2 := blk_frozen BK318.out 2
        go_wp2_with (first | ((with_reducible refine gate_callee (f := 126) rfl ?_); refine goesL_ (some 32) rfl rfl Try.func126 (by kernel_rfl) rfl #[.agg #[.int .i64 a0_0, .int .i64 a0_1, .slice A0_2 l0_2.length c0_2], .int .i64 x7_1, .int .i64 x8_2] rfl (by (try simp only [List.map_toArray, List.map_cons, List.map_nil]); first | done | rfl | (simp only [List.length_drop, List.length_take]; rfl)) ?_; (with_reducible refine (spec_l2At.calls a0_0 a0_1 _ _ l0_2 x7_1 x8_2 t321 _ ?side1 ?side2 A14.out).mono ?_); (case side1 => repeat (first | exact (Kd.C_below HR0_2.out HB.out) | (with_reducible refine Kd.C_alloc ?_ _) | (with_reducible refine Kd.C_drewN ?_ _) | (with_reducible refine Kd.C_drew ?_))); (case side2 => exact HC0_2.out); rintro e w19 ⟨rfl, hb⟩; refine ⟨_, rfl, ?_⟩; have n0_ := Aside0.mk (blk_below (g := gb318) (o := .cells #[.int .i64 a0_0, .int .i64 a0_1, .slice A0_2 l0_2.length c0_2] 26 (0, 0)) (by (with_reducible repeat (first | refine blk_drewN ?_ _ | refine blk_drew ?_ | refine blk_alloc ?_ _)); exact BK318.out) hb); have n1_ := Aside0.mk (blk_below (g := gb319) (o := .cells #[.int .i64 a1_0, .int .i64 a1_1, .int .i64 a1_2, .int .i64 a1_3] 76 (0, 0)) (by (with_reducible repeat (first | refine blk_drewN ?_ _ | refine blk_drew ?_ | refine blk_alloc ?_ _)); exact BK319.out) hb); have n2_ := Aside0.mk (below_step (by repeat (first | (with_reducible first | exact HB.out | apply below_alloc | apply pw_below_drewN | apply below_drew1 | refine below_set ?_ GE318.out | refine below_set ?_ GE319.out) | exact HB.out)) hb); clear BK318; clear BK319; clear HB; have BK318 := n0_; have BK319 := n1_; have HB := n2_; clear n0_ n1_ n2_; (try clear hb); (try clear hb2); (try clear hk); (try clear hi)))
        go_roundg k2
        case measure => have := HK1.out; have := HK2.out; omega
        case rel => exact ⟨(x5_2), (x6_2), (wrap64 (x8_2 + 1)), (by first | rfl | (simp; done) | (simp [*]; done)), (by first | rfl | (simp; done) | (simp [*]; done)), (by first | rfl | (simp; done) | (simp [*]; done)), H', ⟨by have := HK1.out; have := HK2.out; omega⟩, ⟨by (with_reducible repeat (first | refine blk_drewN ?_ _ | refine blk_drew ?_ | refine blk_alloc ?_ _)); exact BK318.out⟩, ⟨by (with_reducible repeat (first | refine blk_drewN ?_ _ | refine blk_drew ?_ | refine blk_alloc ?_ _)); exact BK319.out⟩, ⟨by repeat (first | (with_reducible first | exact HB.out | apply below_alloc | apply pw_below_drewN | apply below_drew1 | refine below_set ?_ GE318.out | refine below_set ?_ GE319.out) | exact HB.out)⟩⟩
       ·rw [if_neg c15] at H
        have c15b0 : (t321 == x6_2) = false := beq_eq_false_iff_ne.mpr c15
        have c15b1 : (t321 != x6_2) = true := bne_iff_ne.mpr c15
        by_cases c20 : x6_2 ≥ 0
        ·rw [if_pos c20] at H
         have c20b0 : decide (0 ≤ x6_2) = true := decide_eq_true c20
         clear c20
         have H' := Aside0.mk H
         clear H
         have hnb21 := NB319_318.out
         have hnc21 := NB318_319.out
         have hcz22_0 : wr.cell? ⟨gb319, 0, none⟩ = some (.int .i64 a1_0) := (blk_cell BK319.out 0).trans rfl
         have hcz22_1 : wr.cell? ⟨gb319, 1, none⟩ = some (.int .i64 a1_1) := (blk_cell BK319.out 1).trans rfl
         have hcz22_2 : wr.cell? ⟨gb319, 2, none⟩ = some (.int .i64 a1_2) := (blk_cell BK319.out 2).trans rfl
         have hcz22_3 : wr.cell? ⟨gb319, 3, none⟩ = some (.int .i64 a1_3) := (blk_cell BK319.out 3).trans rfl
         have hfz22_0 := blk_frozen BK319.out 0
         have hfz22_1 := blk_frozen BK319.out 1
         have hfz22_2 := blk_frozen BK319.out 2
         have hfz22_3 := blk_frozen BK319.out 3
         have hcz23_0 : wr.cell? ⟨gb318, 0, none⟩ = some (.int .i64 a0_0) := (blk_cell BK318.out 0).trans rfl
         have hcz23_1 : wr.cell? ⟨gb318, 1, none⟩ = some (.int .i64 a0_1) := (blk_cell BK318.out 1).trans rfl
         have hcz23_2 : wr.cell? ⟨gb318, 2, none⟩ = some (.slice A0_2 l0_2.length c0_2) := (blk_cell BK318.out 2).trans rfl
         have hfz23_0 := blk_frozen BK318.out 0
         have hfz23_1 := blk_frozen BK318.out 1
         have hfz23_2 := blk_frozen BK318.out 2
         go_wp2_with (first | ((with_reducible refine gate_callee (f := 126) rfl ?_); refine goesL_ (some 32) rfl rfl Try.func126 (by kernel_rfl) rfl #[.agg #[.int .i64 a0_0, .int .i64 a0_1, .slice A0_2 l0_2.length c0_2], .int .i64 x7_1, .int .i64 x8_2] rfl (by (try simp only [List.map_toArray, List.map_cons, List.map_nil]); first | done | rfl | (simp only [List.length_drop, List.length_take]; rfl)) ?_; (with_reducible refine (spec_l2At.calls a0_0 a0_1 _ _ l0_2 x7_1 x8_2 t321 _ ?side1 ?side2 A14.out).mono ?_); (case side1 => repeat (first | exact (Kd.C_below HR0_2.out HB.out) | (with_reducible refine Kd.C_alloc ?_ _) | (with_reducible refine Kd.C_drewN ?_ _) | (with_reducible refine Kd.C_drew ?_))); (case side2 => exact HC0_2.out); rintro e w24 ⟨rfl, hb⟩; refine ⟨_, rfl, ?_⟩; have n0_ := Aside0.mk (blk_below (g := gb318) (o := .cells #[.int .i64 a0_0, .int .i64 a0_1, .slice A0_2 l0_2.length c0_2] 26 (0, 0)) (by (with_reducible repeat (first | refine blk_drewN ?_ _ | refine blk_drew ?_ | refine blk_alloc ?_ _)); exact BK318.out) hb); have n1_ := Aside0.mk (blk_below (g := gb319) (o := .cells #[.int .i64 a1_0, .int .i64 a1_1, .int .i64 a1_2, .int .i64 a1_3] 76 (0, 0)) (by (with_reducible repeat (first | refine blk_drewN ?_ _ | refine blk_drew ?_ | refine blk_alloc ?_ _)); exact BK319.out) hb); have n2_ := Aside0.mk (below_step (by repeat (first | (with_reducible first | exact HB.out | apply below_alloc | apply pw_below_drewN | apply below_drew1 | refine below_set ?_ GE318.out | refine below_set ?_ GE319.out) | exact HB.out)) hb); clear BK318; clear BK319; clear HB; have BK318 := n0_; have BK319 := n1_; have HB := n2_; clear n0_ n1_ n2_; (try clear hb); (try clear hb2); (try clear hk); (try clear hi)))
         go_roundg k2
         case measure => have := HK1.out; have := HK2.out; omega
         case rel => exact ⟨(wrap64 (x5_2 + 1)), (t321), (wrap64 (x8_2 + 1)), (by first | rfl | (simp; done) | (simp [*]; done)), (by first | rfl | (simp; done) | (simp [*]; done)), (by first | rfl | (simp; done) | (simp [*]; done)), H', ⟨by have := HK1.out; have := HK2.out; omega⟩, ⟨by (with_reducible repeat (first | refine blk_drewN ?_ _ | refine blk_drew ?_ | refine blk_alloc ?_ _)); exact BK318.out⟩, ⟨by (with_reducible repeat (first | refine blk_drewN ?_ _ | refine blk_drew ?_ | refine blk_alloc ?_ _)); exact BK319.out⟩, ⟨by repeat (first | (with_reducible first | exact HB.out | apply below_alloc | apply pw_below_drewN | apply below_drew1 | refine below_set ?_ GE318.out | refine below_set ?_ GE319.out) | exact HB.out)⟩⟩
        ·rw [if_neg c20] at H
         have c20b0 : decide (0 ≤ x6_2) = false := decide_eq_false c20
         clear c20
         have H' := Aside0.mk H
         clear H
         have hnb25 := NB319_318.out
         have hnc25 := NB318_319.out
         have hcz26_0 : wr.cell? ⟨gb319, 0, none⟩ = some (.int .i64 a1_0) := (blk_cell BK319.out 0).trans rfl
         have hcz26_1 : wr.cell? ⟨gb319, 1, none⟩ = some (.int .i64 a1_1) := (blk_cell BK319.out 1).trans rfl
         have hcz26_2 : wr.cell? ⟨gb319, 2, none⟩ = some (.int .i64 a1_2) := (blk_cell BK319.out 2).trans rfl
         have hcz26_3 : wr.cell? ⟨gb319, 3, none⟩ = some (.int .i64 a1_3) := (blk_cell BK319.out 3).trans rfl
         have hfz26_0 := blk_frozen BK319.out 0
         have hfz26_1 := blk_frozen BK319.out 1
         have hfz26_2 := blk_frozen BK319.out 2
         have hfz26_3 := blk_frozen BK319.out 3
         have hcz27_0 : wr.cell? ⟨gb318, 0, none⟩ = some (.int .i64 a0_0) := (blk_cell BK318.out 0).trans rfl
         have hcz27_1 : wr.cell? ⟨gb318, 1, none⟩ = some (.int .i64 a0_1) := (blk_cell BK318.out 1).trans rfl
         have hcz27_2 : wr.cell? ⟨gb318, 2, none⟩ = some (.slice A0_2 l0_2.length c0_2) := (blk_cell BK318.out 2).trans rfl
         have hfz27_0 := blk_frozen BK318.out 0
         have hfz27_1 := blk_frozen BK318.out 1
         have hfz27_2 := blk_frozen BK318.out 2
         go_wp2_with (first | ((with_reducible refine gate_callee (f := 126) rfl ?_); refine goesL_ (some 32) rfl rfl Try.func126 (by kernel_rfl) rfl #[.agg #[.int .i64 a0_0, .int .i64 a0_1, .slice A0_2 l0_2.length c0_2], .int .i64 x7_1, .int .i64 x8_2] rfl (by (try simp only [List.map_toArray, List.map_cons, List.map_nil]); first | done | rfl | (simp only [List.length_drop, List.length_take]; rfl)) ?_; (with_reducible refine (spec_l2At.calls a0_0 a0_1 _ _ l0_2 x7_1 x8_2 t321 _ ?side1 ?side2 A14.out).mono ?_); (case side1 => repeat (first | exact (Kd.C_below HR0_2.out HB.out) | (with_reducible refine Kd.C_alloc ?_ _) | (with_reducible refine Kd.C_drewN ?_ _) | (with_reducible refine Kd.C_drew ?_))); (case side2 => exact HC0_2.out); rintro e w28 ⟨rfl, hb⟩; refine ⟨_, rfl, ?_⟩; have n0_ := Aside0.mk (blk_below (g := gb318) (o := .cells #[.int .i64 a0_0, .int .i64 a0_1, .slice A0_2 l0_2.length c0_2] 26 (0, 0)) (by (with_reducible repeat (first | refine blk_drewN ?_ _ | refine blk_drew ?_ | refine blk_alloc ?_ _)); exact BK318.out) hb); have n1_ := Aside0.mk (blk_below (g := gb319) (o := .cells #[.int .i64 a1_0, .int .i64 a1_1, .int .i64 a1_2, .int .i64 a1_3] 76 (0, 0)) (by (with_reducible repeat (first | refine blk_drewN ?_ _ | refine blk_drew ?_ | refine blk_alloc ?_ _)); exact BK319.out) hb); have n2_ := Aside0.mk (below_step (by repeat (first | (with_reducible first | exact HB.out | apply below_alloc | apply pw_below_drewN | apply below_drew1 | refine below_set ?_ GE318.out | refine below_set ?_ GE319.out) | exact HB.out)) hb); clear BK318; clear BK319; clear HB; have BK318 := n0_; have BK319 := n1_; have HB := n2_; clear n0_ n1_ n2_; (try clear hb); (try clear hb2); (try clear hk); (try clear hi)))
         go_roundg k2
         case measure => have := HK1.out; have := HK2.out; omega
         case rel => exact ⟨(x5_2), (t321), (wrap64 (x8_2 + 1)), (by first | rfl | (simp; done) | (simp [*]; done)), (by first | rfl | (simp; done) | (simp [*]; done)), (by first | rfl | (simp; done) | (simp [*]; done)), H', ⟨by have := HK1.out; have := HK2.out; omega⟩, ⟨by (with_reducible repeat (first | refine blk_drewN ?_ _ | refine blk_drew ?_ | refine blk_alloc ?_ _)); exact BK318.out⟩, ⟨by (with_reducible repeat (first | refine blk_drewN ?_ _ | refine blk_drew ?_ | refine blk_alloc ?_ _)); exact BK319.out⟩, ⟨by repeat (first | (with_reducible first | exact HB.out | apply below_alloc | apply pw_below_drewN | apply below_drew1 | refine below_set ?_ GE318.out | refine below_set ?_ GE319.out) | exact HB.out)⟩⟩
      ·rw [if_neg c13] at H
       have c13b0 : decide (x8_2 ≤ a1_3) = false := decide_eq_false c13
       clear c13
       have H' := Aside0.mk H
       clear H
       have hnb29 := NB319_318.out
       have hnc29 := NB318_319.out
       have hcz30_0 : wr.cell? ⟨gb319, 0, none⟩ = some (.int .i64 a1_0) := (blk_cell BK319.out 0).trans rfl
       have hcz30_1 : wr.cell? ⟨gb319, 1, none⟩ = some (.int .i64 a1_1) := (blk_cell BK319.out 1).trans rfl
       have hcz30_2 : wr.cell? ⟨gb319, 2, none⟩ = some (.int .i64 a1_2) := (blk_cell BK319.out 2).trans rfl
       have hcz30_3 : wr.cell? ⟨gb319, 3, none⟩ = some (.int .i64 a1_3) := (blk_cell BK319.out 3).trans rfl
       have hfz30_0 := blk_frozen BK319.out 0
       have hfz30_1 := blk_frozen BK319.out 1
       have hfz30_2 := blk_frozen BK319.out 2
       have hfz30_3 := blk_frozen BK319.out 3
       go_wp2
       go_roundg k2
       case measure => have := HK1.out; have := HK2.out; omega
       case rel => exact ⟨(x5_2), (x6_2), (wrap64 (x7_1 - 1)), (by first | rfl | (simp; done) | (simp [*]; done)), (by first | rfl | (simp; done) | (simp [*]; done)), (by first | rfl | (simp; done) | (simp [*]; done)), H', ⟨by have := HK1.out; have := HK2.out; omega⟩, ⟨by (with_reducible repeat (first | refine blk_drewN ?_ _ | refine blk_drew ?_ | refine blk_alloc ?_ _)); exact BK318.out⟩, ⟨by (with_reducible repeat (first | refine blk_drewN ?_ _ | refine blk_drew ?_ | refine blk_alloc ?_ _)); exact BK319.out⟩, ⟨by repeat (first | (with_reducible first | exact HB.out | apply below_alloc | apply pw_below_drewN | apply below_drew1 | refine below_set ?_ GE318.out | refine below_set ?_ GE319.out) | exact HB.out)⟩⟩
   ·rw [if_neg c10] at H
    have c10b0 : decide (a1_0 ≤ x7_1) = false := decide_eq_false c10
    clear c10
    obtain rfl := Option.some.inj H
    have hnb31 := NB319_318.out
    have hnc31 := NB318_319.out
    have hcz32_0 : wr.cell? ⟨gb319, 0, none⟩ = some (.int .i64 a1_0) := (blk_cell BK319.out 0).trans rfl
    have hcz32_1 : wr.cell? ⟨gb319, 1, none⟩ = some (.int .i64 a1_1) := (blk_cell BK319.out 1).trans rfl
    have hcz32_2 : wr.cell? ⟨gb319, 2, none⟩ = some (.int .i64 a1_2) := (blk_cell BK319.out 2).trans rfl
    have hcz32_3 : wr.cell? ⟨gb319, 3, none⟩ = some (.int .i64 a1_3) := (blk_cell BK319.out 3).trans rfl
    have hfz32_0 := blk_frozen BK319.out 0
    have hfz32_1 := blk_frozen BK319.out 1
    have hfz32_2 := blk_frozen BK319.out 2
    have hfz32_3 := blk_frozen BK319.out 3
    go_wp2
    go_ret
    exact ⟨by first | rfl | (simp [errW_none, errW_some] <;> rfl) | (simp [*, errW_none, errW_some] <;> rfl) | (simp [wrap64]; done), by repeat (first | (with_reducible first | exact HB.out | apply below_alloc | apply pw_below_drewN | apply below_drew1 | refine below_set ?_ GE318.out | refine below_set ?_ GE319.out) | exact HB.out)⟩

end Go.Proofs.Ytkglpfdoefdhdaa.Q

namespace Go.Proofs.Ytkglpfdoefdhdaa.Q
open Go.RowKit Go.Proofs.YtkglpfdoefdhdaaW.PrintWords Go.Proofs.YtkglpfdoefdhdaaW.PrintLast Go.Proofs.YtkglpfdoefdhdaaW.PrintMore
attribute [local go_sem] max2_int min2_int max_two min_two max_three min_three max_four min_four
set_option linter.unusedVariables false
set_option linter.unusedSimpArgs false

/-! ### impl_Chart_lost: function 125 -/
mutual
def impl_Chart_lost.l0 : Nat → List Int → Int → Int → Int → List Int → Int → Int → Int → Int → Option (List Int)
 | 0, _, _, _, _, _, _, _, _, _ => none
 | k + 1, x5, x6, x382000, x382001, x382002, x383000, x383001, x383002, x383003 => if x6 ≥ x383000 then (impl_Chart_lost.l1 k x5 x6 x383001 x382000 x382001 x382002 x383000 x383001 x383002 x383003) else (some x5)
def impl_Chart_lost.l1 : Nat → List Int → Int → Int → Int → Int → List Int → Int → Int → Int → Int → Option (List Int)
 | 0, _, _, _, _, _, _, _, _, _, _ => none
 | k + 1, x5, x6, x7, x382000, x382001, x382002, x383000, x383001, x383002, x383003 => if x7 ≤ x383003 then ((impl_Chart_at.f x382000 x382001 x382002 x6 x7).bind fun t386 => (if x5.length < 17592186044416 then (impl_Chart_lost.l1 k (x5 ++ [t386]) x6 (wrap64 (x7 + 1)) x382000 x382001 x382002 x383000 x383001 x383002 x383003) else (none))) else (impl_Chart_lost.l0 k x5 (wrap64 (x6 - 1)) x382000 x382001 x382002 x383000 x383001 x383002 x383003)
end
def impl_Chart_lost.f (k : Nat) (a0_0 : Int) (a0_1 : Int) (l0_2 : List Int) (a1_0 : Int) (a1_1 : Int) (a1_2 : Int) (a1_3 : Int) : Option (List Int) := impl_Chart_lost.l0 k (([] : List Int)) a1_2 a0_0 a0_1 l0_2 a1_0 a1_1 a1_2 a1_3
set_option maxHeartbeats 8000000 in
set_option maxRecDepth 100000 in
theorem impl_Chart_lost.calls (k : Nat) (a0_0 : Int) (a0_1 : Int) (A0_2 : Option Addr) (c0_2 : Nat) (l0_2 : List Int) (a1_0 : Int) (a1_1 : Int) (a1_2 : Int) (a1_3 : Int) (r : List Int) (w : World) (hr0_2 : Kd.C (Kd.int .i64) w A0_2 l0_2.length l0_2) (hc0_2 : l0_2.length ≤ c0_2) (h : impl_Chart_lost.f k a0_0 a0_1 l0_2 a1_0 a1_1 a1_2 a1_3 = some r) :
  Calls Try.prog 125 #[.agg #[.int .i64 a0_0, .int .i64 a0_1, .slice A0_2 l0_2.length c0_2], .agg #[.int .i64 a1_0, .int .i64 a1_1, .int .i64 a1_2, .int .i64 a1_3]] w fun e w' => ∃ v0_ : Value, e = .returned (v0_) ∧ Kd.R (Kd.int .i64) 3 w' w.heap.size (fun _ => True) v0_ r ∧ Below w.heap.size w w' := by
 have hu26 := Try.underlying26
 have hu76 := Try.underlying76
 have HR0_2 := Aside0.mk hr0_2
 have HC0_2 := Aside0.mk hc0_2
 clear hr0_2 hc0_2
 have HB := Aside0.mk (Below.refl w.heap.size w)
 have H : (impl_Chart_lost.l0 k (([] : List Int)) a1_2 a0_0 a0_1 l0_2 a1_0 a1_1 a1_2 a1_3) = some r := h
 clear h
 obtain ⟨y383, hy383⟩ : ∃ y_ : List Int, y_ = (([] : List Int)) := ⟨_, rfl⟩
 replace H : (impl_Chart_lost.l0 k y383 a1_2 a0_0 a0_1 l0_2 a1_0 a1_1 a1_2 a1_3) = some r := by first | (rw [hy383]; with_reducible exact H) | (have H2_ := (Option.bind_some _ _).symm.trans H; rw [hy383]; with_reducible exact H2_) | (have H2_ := (Option.bind_some _ _).symm.trans H; with_reducible exact H2_) | with_reducible exact H | (rw [hy383]; exact H) | exact H
 have Ny383 := Aside0.mk hy383
 clear hy383
 have H' := Aside0.mk H
 clear H
 go_enter Try.func125, Try.ntmps125
 go_wp2_with (first | ((with_reducible refine gate_dst (N := 2) rfl ?_); refine box_event ?hg (N := 2) ?hd (cs := #[.int .i64 a0_0, .int .i64 a0_1, .slice A0_2 l0_2.length c0_2]) (t := 26) ?hr ?_; (case hd => rfl); (case hg => rfl); (case hr => first | (go_simp; done) | (go_simp; rfl)); intro gb381 hg w3 hbox hb; have n0_ := Aside0.mk (below_step (by repeat (first | (with_reducible first | exact HB.out | apply below_alloc | apply pw_below_drewN | apply below_drew1) | exact HB.out)) hb); have n1_ := Aside0.mk (hbox); have n2_ := Aside0.mk ((by rw [hg]; exact (below_size (by repeat (first | (with_reducible first | exact HB.out | apply below_alloc | apply pw_below_drewN | apply below_drew1) | exact HB.out))) : w.heap.size ≤ gb381)); have n3_ := Aside0.mk ((by rw [hg]; exact (below_size (by repeat (first | (with_reducible first | exact HB.out | apply below_alloc | apply pw_below_drewN | apply below_drew1) | exact HB.out))) : w.heap.size ≤ gb381)); clear HB; have HB := n0_; have BK381 := n1_; have GW381 := n2_; have GE381 := n3_; clear n0_ n1_ n2_ n3_; clear hb hbox hg) | ((with_reducible refine gate_dst (N := 3) rfl ?_); refine box_event ?hg (N := 3) ?hd (cs := #[.int .i64 a1_0, .int .i64 a1_1, .int .i64 a1_2, .int .i64 a1_3]) (t := 76) ?hr ?_; (case hd => rfl); (case hg => rfl); (case hr => first | (go_simp; done) | (go_simp; rfl)); intro gb382 hg w4 hbox hb; have n0_ := Aside0.mk (blk_below (g := gb381) (o := .cells #[.int .i64 a0_0, .int .i64 a0_1, .slice A0_2 l0_2.length c0_2] 26 (0, 0)) (by (with_reducible repeat (first | refine blk_drewN ?_ _ | refine blk_drew ?_ | refine blk_alloc ?_ _)); exact BK381.out) hb); have n1_ := Aside0.mk (below_step (by repeat (first | (with_reducible first | exact HB.out | apply below_alloc | apply pw_below_drewN | apply below_drew1 | refine below_set ?_ GE381.out) | exact HB.out)) hb); have n2_ := Aside0.mk (hbox); have n3_ := Aside0.mk ((by rw [hg]; exact (below_size (by repeat (first | (with_reducible first | exact HB.out | apply below_alloc | apply pw_below_drewN | apply below_drew1 | refine below_set ?_ GE381.out) | exact HB.out))) : w.heap.size ≤ gb382)); have n4_ := Aside0.mk ((by rw [hg]; exact (below_size (by repeat (first | (with_reducible first | exact HB.out | apply below_alloc | apply pw_below_drewN | apply below_drew1 | refine below_set ?_ GE381.out) | exact HB.out))) : w.heap.size ≤ gb382)); have n5_ := Aside0.mk ((by rw [hg]; exact Nat.ne_of_lt (blk_lt (g := gb381) (o := .cells #[.int .i64 a0_0, .int .i64 a0_1, .slice A0_2 l0_2.length c0_2] 26 (0, 0)) (by (with_reducible repeat (first | refine blk_drewN ?_ _ | refine blk_drew ?_ | refine blk_alloc ?_ _)); exact BK381.out)) : gb381 ≠ gb382)); have n6_ := Aside0.mk ((by rw [hg]; exact Nat.ne_of_gt (blk_lt (g := gb381) (o := .cells #[.int .i64 a0_0, .int .i64 a0_1, .slice A0_2 l0_2.length c0_2] 26 (0, 0)) (by (with_reducible repeat (first | refine blk_drewN ?_ _ | refine blk_drew ?_ | refine blk_alloc ?_ _)); exact BK381.out)) : gb382 ≠ gb381)); clear BK381; clear HB; have BK381 := n0_; have HB := n1_; have BK382 := n2_; have GW382 := n3_; have GE382 := n4_; have NB381_382 := n5_; have NB382_381 := n6_; clear n0_ n1_ n2_ n3_ n4_ n5_ n6_; clear hb hbox hg) | ((with_reducible refine gate_dst (N := 8) rfl ?_); refine Kd.R_lit (Kd.int .i64) _ 3 ?hg (N := 8) ?hd (xs := ([] : List Int)) (inner := []) (ok := fun _ => True) (okp := fun _ => True) ?hr ?hp (fun _ hk => hk) trivial (Below.refl _ _) (Nat.le_refl _) (by simp) ?_; (case hd => rfl); (case hg => rfl); (case hr => first | (go_simp; done) | (go_simp; rfl)); (case hp => exact (Reps.none _ _)); intro v384 w5 ho6 hb hg_ hnew_; clear hg_ hnew_; (first | rw [← Ny383.out] at ho6 | (simp only [Int.reduceToNat] at ho6; rw [← Ny383.out] at ho6)); have n0_ := Aside0.mk (Kd.R_lower ho6 (below_size (by repeat (first | (with_reducible first | exact HB.out | apply below_alloc | apply pw_below_drewN | apply below_drew1 | refine below_set ?_ GE381.out | refine below_set ?_ GE382.out) | exact HB.out)))); have n1_ := Aside0.mk (blk_below (g := gb381) (o := .cells #[.int .i64 a0_0, .int .i64 a0_1, .slice A0_2 l0_2.length c0_2] 26 (0, 0)) (by (with_reducible repeat (first | refine blk_drewN ?_ _ | refine blk_drew ?_ | refine blk_alloc ?_ _)); exact BK381.out) hb); have n2_ := Aside0.mk (blk_below (g := gb382) (o := .cells #[.int .i64 a1_0, .int .i64 a1_1, .int .i64 a1_2, .int .i64 a1_3] 76 (0, 0)) (by (with_reducible repeat (first | refine blk_drewN ?_ _ | refine blk_drew ?_ | refine blk_alloc ?_ _)); exact BK382.out) hb); have n3_ := Aside0.mk (below_step (by repeat (first | (with_reducible first | exact HB.out | apply below_alloc | apply pw_below_drewN | apply below_drew1 | refine below_set ?_ GE381.out | refine below_set ?_ GE382.out) | exact HB.out)) hb); clear BK381; clear BK382; clear HB; have HO385 := n0_; have BK381 := n1_; have BK382 := n2_; have HB := n3_; clear n0_ n1_ n2_ n3_; clear hb ho6; have hnb7 := NB382_381.out; have hnc7 := NB381_382.out; have hcz8_0 : w5.cell? ⟨gb382, 0, none⟩ = some (.int .i64 a1_0) := (blk_cell BK382.out 0).trans rfl; have hcz8_1 : w5.cell? ⟨gb382, 1, none⟩ = some (.int .i64 a1_1) := (blk_cell BK382.out 1).trans rfl; have hcz8_2 : w5.cell? ⟨gb382, 2, none⟩ = some (.int .i64 a1_2) := (blk_cell BK382.out 2).trans rfl; have hcz8_3 : w5.cell? ⟨gb382, 3, none⟩ = some (.int .i64 a1_3) := (blk_cell BK382.out 3).trans rfl; have hfz8_0 := blk_frozen BK382.out 0; have hfz8_1 := blk_frozen BK382.out 1; have hfz8_2 := blk_frozen BK382.out 2; have hfz8_3 := blk_frozen BK382.out 3))
 go_loopg [5, 6] k (fun kq v5 v6 w' => ∃ (x5_1 : List Int) (x6_1 : Int), v6 = .int .i64 x6_1 ∧ Aside0 (impl_Chart_lost.l0 kq x5_1 x6_1 a0_0 a0_1 l0_2 a1_0 a1_1 a1_2 a1_3 = some r) ∧ Aside0 (kq ≤ k) ∧ Aside0 (Kd.R (Kd.int .i64) 3 w' w.heap.size (fun _ => True) v5 x5_1) ∧ Aside0 (w'.heap[gb381]? = some (.cells #[.int .i64 a0_0, .int .i64 a0_1, (.slice A0_2 l0_2.length c0_2)] 26 (0, 0))) ∧ Aside0 (w'.heap[gb382]? = some (.cells #[.int .i64 a1_0, .int .i64 a1_1, .int .i64 a1_2, .int .i64 a1_3] 76 (0, 0))) ∧ Aside0 (Below w.heap.size w w'))
 case atStart => exact ⟨(y383), (a1_2), (by first | rfl | (simp; done) | (simp [*]; done)), H', ⟨Nat.le_refl _⟩, ⟨by (with_reducible repeat (first | apply Kd.R_alloc | apply Kd.R_drewN | apply Kd.R_drew)); exact HO385.out⟩, ⟨by (with_reducible repeat (first | refine blk_drewN ?_ _ | refine blk_drew ?_ | refine blk_alloc ?_ _)); exact BK381.out⟩, ⟨by (with_reducible repeat (first | refine blk_drewN ?_ _ | refine blk_drew ?_ | refine blk_alloc ?_ _)); exact BK382.out⟩, ⟨by repeat (first | (with_reducible first | exact HB.out | apply below_alloc | apply pw_below_drewN | apply below_drew1 | refine below_set ?_ GE381.out | refine below_set ?_ GE382.out) | exact HB.out)⟩⟩
 case round =>
  clear H'
  try clear c1
  try clear p2
  try clear c7
  try clear hcz8_0
  try clear hcz8_1
  try clear hcz8_2
  try clear hcz8_3
  try clear hfz8_0
  try clear hfz8_1
  try clear hfz8_2
  try clear hfz8_3
  obtain ⟨x5_1, x6_1, rfl, HA, HK1, HO_5, BK381, BK382, HB⟩ := hrel
  cases gk with
  | zero => exact absurd HA.out (by simp [impl_Chart_lost.l0])
  | succ k1 =>
   have H := HA.out
   clear HA
   simp only [impl_Chart_lost.l0] at H
   by_cases c9 : x6_1 ≥ a1_0
   ·rw [if_pos c9] at H
    have c9b0 : decide (a1_0 ≤ x6_1) = true := decide_eq_true c9
    clear c9
    have H' := Aside0.mk H
    clear H
    have hnb10 := NB382_381.out
    have hnc10 := NB381_382.out
    have hcz11_0 : wr.cell? ⟨gb382, 0, none⟩ = some (.int .i64 a1_0) := (blk_cell BK382.out 0).trans rfl
    have hcz11_1 : wr.cell? ⟨gb382, 1, none⟩ = some (.int .i64 a1_1) := (blk_cell BK382.out 1).trans rfl
    have hcz11_2 : wr.cell? ⟨gb382, 2, none⟩ = some (.int .i64 a1_2) := (blk_cell BK382.out 2).trans rfl
    have hcz11_3 : wr.cell? ⟨gb382, 3, none⟩ = some (.int .i64 a1_3) := (blk_cell BK382.out 3).trans rfl
    have hfz11_0 := blk_frozen BK382.out 0
    have hfz11_1 := blk_frozen BK382.out 1
    have hfz11_2 := blk_frozen BK382.out 2
    have hfz11_3 := blk_frozen BK382.out 3
    go_wp2
    go_loopg [5, 7] k1 (fun kq v5 v7 w' => ∃ (x5_2 : List Int) (x7_2 : Int), v7 = .int .i64 x7_2 ∧ Aside0 (impl_Chart_lost.l1 kq x5_2 x6_1 x7_2 a0_0 a0_1 l0_2 a1_0 a1_1 a1_2 a1_3 = some r) ∧ Aside0 (kq ≤ k1) ∧ Aside0 (Kd.R (Kd.int .i64) 3 w' w.heap.size (fun _ => True) v5 x5_2) ∧ Aside0 (w'.heap[gb381]? = some (.cells #[.int .i64 a0_0, .int .i64 a0_1, (.slice A0_2 l0_2.length c0_2)] 26 (0, 0))) ∧ Aside0 (w'.heap[gb382]? = some (.cells #[.int .i64 a1_0, .int .i64 a1_1, .int .i64 a1_2, .int .i64 a1_3] 76 (0, 0))) ∧ Aside0 (Below w.heap.size w w'))
    case atStart => exact ⟨(x5_1), (a1_1), (by first | rfl | (simp; done) | (simp [*]; done)), H', ⟨Nat.le_refl _⟩, ⟨by (with_reducible repeat (first | apply Kd.R_alloc | apply Kd.R_drewN | apply Kd.R_drew)); exact HO_5.out⟩, ⟨by (with_reducible repeat (first | refine blk_drewN ?_ _ | refine blk_drew ?_ | refine blk_alloc ?_ _)); exact BK381.out⟩, ⟨by (with_reducible repeat (first | refine blk_drewN ?_ _ | refine blk_drew ?_ | refine blk_alloc ?_ _)); exact BK382.out⟩, ⟨by repeat (first | (with_reducible first | exact HB.out | apply below_alloc | apply pw_below_drewN | apply below_drew1 | refine below_set ?_ GE381.out | refine below_set ?_ GE382.out) | exact HB.out)⟩⟩
    case round =>
     clear H'
     try clear c1
     try clear p2
     try clear c7
     try clear c9
     try clear c9b0
     try clear c10
     try clear hcz11_0
     try clear hcz11_1
     try clear hcz11_2
     try clear hcz11_3
     try clear hcz8_0
     try clear hcz8_1
     try clear hcz8_2
     try clear hcz8_3
     try clear hfz11_0
     try clear hfz11_1
     try clear hfz11_2
     try clear hfz11_3
     try clear hfz8_0
     try clear hfz8_1
     try clear hfz8_2
     try clear hfz8_3
     try clear p2
     obtain ⟨x5_2, x7_2, rfl, HA, HK2, HO_5, BK381, BK382, HB⟩ := hrel
     cases gk with
     | zero => exact absurd HA.out (by simp [impl_Chart_lost.l1])
     | succ k2 =>
      have H := HA.out
      clear HA
      simp only [impl_Chart_lost.l1] at H
      by_cases c12 : x7_2 ≤ a1_3
      ·rw [if_pos c12] at H
       have c12b0 : decide (x7_2 ≤ a1_3) = true := decide_eq_true c12
       clear c12
       replace H := Option.bind_eq_some_iff.mp H
       obtain ⟨t386, A130, H⟩ := H
       have A13 := Aside0.mk A130
       clear A130
       by_cases c14 : x5_2.length < 17592186044416
       ·rw [if_pos c14] at H
        have LMc14 := Aside0.mk c14
        clear c14
        obtain ⟨y387, hy387⟩ : ∃ y_ : List Int, y_ = (x5_2 ++ [t386]) := ⟨_, rfl⟩
        replace H : (impl_Chart_lost.l1 k2 y387 x6_1 (wrap64 (x7_2 + 1)) a0_0 a0_1 l0_2 a1_0 a1_1 a1_2 a1_3) = some r := by first | (rw [hy387]; with_reducible exact H) | (have H2_ := (Option.bind_some _ _).symm.trans H; rw [hy387]; with_reducible exact H2_) | (have H2_ := (Option.bind_some _ _).symm.trans H; with_reducible exact H2_) | with_reducible exact H | (rw [hy387]; exact H) | exact H
        have Ny387 := Aside0.mk hy387
        clear hy387
        have H' := Aside0.mk H
        clear H
        have hnb15 := NB382_381.out
        have hnc15 := NB381_382.out
        have hcz16_0 : wr.cell? ⟨gb382, 0, none⟩ = some (.int .i64 a1_0) := (blk_cell BK382.out 0).trans rfl
        have hcz16_1 : wr.cell? ⟨gb382, 1, none⟩ = some (.int .i64 a1_1) := (blk_cell BK382.out 1).trans rfl
        have hcz16_2 : wr.cell? ⟨gb382, 2, none⟩ = some (.int .i64 a1_2) := (blk_cell BK382.out 2).trans rfl
        have hcz16_3 : wr.cell? ⟨gb382, 3, none⟩ = some (.int .i64 a1_3) := (blk_cell BK382.out 3).trans rfl
        have hfz16_0 := blk_frozen BK382.out 0
        have hfz16_1 := blk_frozen BK382.out 1
        have hfz16_2 := blk_frozen BK382.out 2
        have hfz16_3 := blk_frozen BK382.out 3
        have hcz17_0 : wr.cell? ⟨gb381, 0, none⟩ = some (.int .i64 a0_0) := (blk_cell BK381.out 0).trans rfl
        have hcz17_1 : wr.cell? ⟨gb381, 1, none⟩ = some (.int .i64 a0_1) := (blk_cell BK381.out 1).trans rfl
        have hcz17_2 : wr.cell? ⟨gb381, 2, none⟩ = some (.slice A0_2 l0_2.length c0_2) := (blk_cell BK381.out 2).trans rfl
        have hfz17_0 := blk_frozen BK381.out 0
        have hfz17_1 := blk_frozen BK381.out 1
        have hfz17_2 := blk_frozen BK381.out 2
        go_wp2_with (first | ((with_reducible refine gate_callee (f := 160) rfl ?_); refine goesL_ (some 29) rfl rfl Try.func160 (by kernel_rfl) rfl #[.agg #[.int .i64 a0_0, .int .i64 a0_1, .slice A0_2 l0_2.length c0_2], .int .i64 x6_1, .int .i64 x7_2] rfl (by (try simp only [List.map_toArray, List.map_cons, List.map_nil]); first | done | rfl | (simp only [List.length_drop, List.length_take]; rfl)) ?_; (with_reducible refine (impl_Chart_at.calls a0_0 a0_1 _ _ l0_2 x6_1 x7_2 t386 _ ?side1 ?side2 A13.out).mono ?_); (case side1 => repeat (first | exact (Kd.C_below HR0_2.out HB.out) | (with_reducible refine Kd.C_alloc ?_ _) | (with_reducible refine Kd.C_drewN ?_ _) | (with_reducible refine Kd.C_drew ?_))); (case side2 => exact HC0_2.out); rintro e w18 ⟨rfl, hb⟩; refine ⟨_, rfl, ?_⟩; have n0_ := Aside0.mk (Kd.R_below (by (with_reducible repeat (first | apply Kd.R_alloc | apply Kd.R_drewN | apply Kd.R_drew)); exact HO_5.out) hb); have n1_ := Aside0.mk (blk_below (g := gb381) (o := .cells #[.int .i64 a0_0, .int .i64 a0_1, .slice A0_2 l0_2.length c0_2] 26 (0, 0)) (by (with_reducible repeat (first | refine blk_drewN ?_ _ | refine blk_drew ?_ | refine blk_alloc ?_ _)); exact BK381.out) hb); have n2_ := Aside0.mk (blk_below (g := gb382) (o := .cells #[.int .i64 a1_0, .int .i64 a1_1, .int .i64 a1_2, .int .i64 a1_3] 76 (0, 0)) (by (with_reducible repeat (first | refine blk_drewN ?_ _ | refine blk_drew ?_ | refine blk_alloc ?_ _)); exact BK382.out) hb); have n3_ := Aside0.mk (below_step (by repeat (first | (with_reducible first | exact HB.out | apply below_alloc | apply pw_below_drewN | apply below_drew1 | refine below_set ?_ GE381.out | refine below_set ?_ GE382.out) | exact HB.out)) hb); clear HO_5; clear BK381; clear BK382; clear HB; have HO_5 := n0_; have BK381 := n1_; have BK382 := n2_; have HB := n3_; clear n0_ n1_ n2_ n3_; (try clear hb); (try clear hb2); (try clear hk); (try clear hi)) | ((with_reducible refine gate_builtin (b := .append) (xs := #[.tmp 25, .tmp 30]) rfl ?_); at_builtin; refine Kd.R_append (Kd.int .i64) (w0 := w) w.heap.size rfl (.tmp 25) (.tmp 30) 24 3 (.int .i64 0) 8 rfl Try.underlying24 info3 rfl (by decide) (by omega) u5 x5_2 t386 [.int .i64 t386] (fun _ => True) (fun _ => False) rfl rfl ?aP (fun _ hk => hk.elim) ?aF ?aO ?aB ?aS ?aL ?_; (case aP => exact rfl); (case aB => exact (by repeat (first | (with_reducible first | exact HB.out | apply below_alloc | apply pw_below_drewN | apply below_drew1 | refine below_set ?_ GE381.out | refine below_set ?_ GE382.out) | exact HB.out))); (case aF => exact (fun _ _ => trivial)); (case aO => exact (by (with_reducible repeat (first | apply Kd.R_alloc | apply Kd.R_drewN | apply Kd.R_drew)); exact HO_5.out)); (case aS => exact (below_size (by repeat (first | (with_reducible first | exact HB.out | apply below_alloc | apply pw_below_drewN | apply below_drew1 | refine below_set ?_ GE381.out | refine below_set ?_ GE382.out) | exact HB.out)))); (case aL => have := LMc14.out; omega); intro v388 w19 ho hb hg hat; rw [← Ny387.out] at ho; have n0_ := Aside0.mk (blk_grown (g := gb381) (o := .cells #[.int .i64 a0_0, .int .i64 a0_1, .slice A0_2 l0_2.length c0_2] 26 (0, 0)) (by (with_reducible repeat (first | refine blk_drewN ?_ _ | refine blk_drew ?_ | refine blk_alloc ?_ _)); exact BK381.out) hg (Kd.R_ne HO_5.out BK381.out (by decide))); have n1_ := Aside0.mk (blk_grown (g := gb382) (o := .cells #[.int .i64 a1_0, .int .i64 a1_1, .int .i64 a1_2, .int .i64 a1_3] 76 (0, 0)) (by (with_reducible repeat (first | refine blk_drewN ?_ _ | refine blk_drew ?_ | refine blk_alloc ?_ _)); exact BK382.out) hg (Kd.R_ne HO_5.out BK382.out (by decide))); have n2_ := Aside0.mk (hb); have n3_ := Aside0.mk (ho); clear BK381; clear BK382; clear HB; clear HO_5; have BK381 := n0_; have BK382 := n1_; have HB := n2_; have HO389 := n3_; clear n0_ n1_ n2_ n3_; clear ho hb hg hat))
        go_roundg k2
        case measure => have := HK1.out; have := HK2.out; omega
        case rel => exact ⟨(y387), (wrap64 (x7_2 + 1)), (by first | rfl | (simp; done) | (simp [*]; done)), H', ⟨by have := HK1.out; have := HK2.out; omega⟩, ⟨by (with_reducible repeat (first | apply Kd.R_alloc | apply Kd.R_drewN | apply Kd.R_drew)); exact HO389.out⟩, ⟨by (with_reducible repeat (first | refine blk_drewN ?_ _ | refine blk_drew ?_ | refine blk_alloc ?_ _)); exact BK381.out⟩, ⟨by (with_reducible repeat (first | refine blk_drewN ?_ _ | refine blk_drew ?_ | refine blk_alloc ?_ _)); exact BK382.out⟩, ⟨by repeat (first | (with_reducible first | exact HB.out | apply below_alloc | apply pw_below_drewN | apply below_drew1 | refine below_set ?_ GE381.out | refine below_set ?_ GE382.out) | exact HB.out)⟩⟩
       ·rw [if_neg c14] at H
        exact absurd H (by simp)
      ·rw [if_neg c12] at H
       have c12b0 : decide (x7_2 ≤ a1_3) = false := decide_eq_false c12
       clear c12
       have H' := Aside0.mk H
       clear H
       have hnb20 := NB382_381.out
       have hnc20 := NB381_382.out
       have hcz21_0 : wr.cell? ⟨gb382, 0, none⟩ = some (.int .i64 a1_0) := (blk_cell BK382.out 0).trans rfl
       have hcz21_1 : wr.cell? ⟨gb382, 1, none⟩ = some (.int .i64 a1_1) := (blk_cell BK382.out 1).trans rfl
       have hcz21_2 : wr.cell? ⟨gb382, 2, none⟩ = some (.int .i64 a1_2) := (blk_cell BK382.out 2).trans rfl
       have hcz21_3 : wr.cell? ⟨gb382, 3, none⟩ = some (.int .i64 a1_3) := (blk_cell BK382.out 3).trans rfl
       have hfz21_0 := blk_frozen BK382.out 0
       have hfz21_1 := blk_frozen BK382.out 1
       have hfz21_2 := blk_frozen BK382.out 2
       have hfz21_3 := blk_frozen BK382.out 3
       go_wp2
       go_roundg k2
       case measure => have := HK1.out; have := HK2.out; omega
       case rel => exact ⟨(x5_2), (wrap64 (x6_1 - 1)), (by first | rfl | (simp; done) | (simp [*]; done)), H', ⟨by have := HK1.out; have := HK2.out; omega⟩, ⟨by (with_reducible repeat (first | apply Kd.R_alloc | apply Kd.R_drewN | apply Kd.R_drew)); exact HO_5.out⟩, ⟨by (with_reducible repeat (first | refine blk_drewN ?_ _ | refine blk_drew ?_ | refine blk_alloc ?_ _)); exact BK381.out⟩, ⟨by (with_reducible repeat (first | refine blk_drewN ?_ _ | refine blk_drew ?_ | refine blk_alloc ?_ _)); exact BK382.out⟩, ⟨by repeat (first | (with_reducible first | exact HB.out | apply below_alloc | apply pw_below_drewN | apply below_drew1 | refine below_set ?_ GE381.out | refine below_set ?_ GE382.out) | exact HB.out)⟩⟩
   ·rw [if_neg c9] at H
    have c9b0 : decide (a1_0 ≤ x6_1) = false := decide_eq_false c9
    clear c9
    obtain rfl := Option.some.inj H
    have hnb22 := NB382_381.out
    have hnc22 := NB381_382.out
    have hcz23_0 : wr.cell? ⟨gb382, 0, none⟩ = some (.int .i64 a1_0) := (blk_cell BK382.out 0).trans rfl
    have hcz23_1 : wr.cell? ⟨gb382, 1, none⟩ = some (.int .i64 a1_1) := (blk_cell BK382.out 1).trans rfl
    have hcz23_2 : wr.cell? ⟨gb382, 2, none⟩ = some (.int .i64 a1_2) := (blk_cell BK382.out 2).trans rfl
    have hcz23_3 : wr.cell? ⟨gb382, 3, none⟩ = some (.int .i64 a1_3) := (blk_cell BK382.out 3).trans rfl
    have hfz23_0 := blk_frozen BK382.out 0
    have hfz23_1 := blk_frozen BK382.out 1
    have hfz23_2 := blk_frozen BK382.out 2
    have hfz23_3 := blk_frozen BK382.out 3
    go_wp2
    go_ret
    exact ⟨_, by first | rfl | (simp [errW_none, errW_some] <;> rfl) | (simp [*, errW_none, errW_some] <;> rfl) | (simp [wrap64]; done), by (with_reducible repeat (first | apply Kd.R_alloc | apply Kd.R_drewN | apply Kd.R_drew)); exact HO_5.out, by repeat (first | (with_reducible first | exact HB.out | apply below_alloc | apply pw_below_drewN | apply below_drew1 | refine below_set ?_ GE381.out | refine below_set ?_ GE382.out) | exact HB.out)⟩

end Go.Proofs.Ytkglpfdoefdhdaa.Q

namespace Go.Proofs.Ytkglpfdoefdhdaa.M
open Go Go.RowKit Go.Proofs.Ytkglpfdoefdhdaa.Q Go.Proofs.YtkglpfdoefdhdaaW.PrintWords Go.Proofs.YtkglpfdoefdhdaaW.PrintLast Go.Proofs.YtkglpfdoefdhdaaW.Pl
set_option linter.unusedSimpArgs false
set_option linter.unusedVariables false
namespace MN
/-- Counted changes of colour, and the last colour. -/
def cntF (l : List Int) : Nat × Int := l.foldl (fun p x => (if x = p.2 then p.1 else p.1 + 1, x)) (0, -1)
theorem cntF_snoc (l : List Int) (x : Int) : cntF (l ++ [x]) = (if x = (cntF l).2 then (cntF l).1 else (cntF l).1 + 1, x) := by unfold cntF; rw [List.foldl_append]; rfl
theorem cnt_compact {l : List Int} (h : ∀ x, x ∈ l → 0 ≤ x) : (cntF l).1 = (Lib.compact l).length := by
  have main : ∀ m, m ≤ l.length → (cntF (l.take m)).1 = (Lib.compactUpTo l.toArray m).length ∧ (cntF (l.take m)).2 = if m = 0 then -1 else l.getD (m - 1) 0 := by
    intro m
    induction m with
    | zero => intro _; exact ⟨rfl, rfl⟩
    | succ m ih =>
      intro hm
      obtain ⟨h1, h2⟩ := ih (by omega)
      have hx : l.toArray[m]! = l[m] := by simp [show m < l.length by omega]
      rw [List.take_succ_eq_append_getElem (by omega), cntF_snoc, Lib.compactUpTo_succ, List.length_append, h1, h2]
      refine ⟨?_, ?_⟩
      · by_cases h0 : m = 0
        · subst h0
          have hp := h _ (List.getElem_mem (show 0 < l.length by omega))
          rw [if_pos rfl, if_neg (by omega), Lib.keeps_lt_one _ 0 (by omega)]
          simp
        · rw [if_neg h0]
          have hd : l.getD (m - 1) 0 = l.toArray[m - 1]! := by simp [List.getD, show m - 1 < l.length by omega]
          rw [hd, ← hx]
          by_cases he : l.toArray[m]! = l.toArray[m - 1]!
          · rw [if_pos he, Lib.keeps_neg (by omega) he]; simp
          · rw [if_neg he, Lib.keeps_pos he]; simp
      · simp [show m < l.length by omega]
  have := (main l.length (Nat.le_refl _)).1
  rw [List.take_length] at this
  exact this

def inv (l : List Int) : Prop := (1 ≤ (cntF l).1 ∧ 0 ≤ (cntF l).2) ∨ cntF l = (0, -1)
theorem inv_snoc {l : List Int} {x : Int} (h : inv l) (hx : 0 ≤ x) : inv (l ++ [x]) := by
  unfold inv at *
  rw [cntF_snoc]
  left
  refine ⟨?_, hx⟩
  dsimp only
  rcases h with h | h
  · split <;> omega
  · rw [h]; dsimp only; rw [if_neg (by omega)]; omega
/-- The colours of a row, of all rows. -/
def rowL (cs : List Int) (w row : Int) : Int → Nat → List Int
  | _, 0 => []
  | col, d + 1 => rd cs (row * w + col) :: rowL cs w row (col + 1) d
def allL (cs : List Int) (w left : Int) (n : Nat) : Int → Nat → List Int
  | _, 0 => []
  | row, d + 1 => rowL cs w row left n ++ allL cs w left n (row - 1) d
def lostL (w : Int) (cs : List Int) (x : S76) : List Int := allL cs w x.f1 (x.f3 - x.f1 + 1).toNat x.f2 (x.f2 - x.f0 + 1).toNat
theorem rowL_len (cs : List Int) (w row : Int) : ∀ d col, (rowL cs w row col d).length = d
  | 0, _ => rfl
  | d + 1, col => by simp [rowL, rowL_len cs w row d (col + 1)]
theorem allL_len (cs : List Int) (w left : Int) (n : Nat) : ∀ d row, (allL cs w left n row d).length = d * n
  | 0, _ => by simp [allL]
  | d + 1, row => by rw [allL, List.length_append, rowL_len, allL_len cs w left n d (row - 1), Nat.add_mul]; omega
section
variable {w h : Int} {cs : List Int} (hg : goodC w h cs = true) {x : S76} (hx : okH w h x = true) (base : Int) (hb : 0 ≤ base ∧ base ≤ 1000)
def nOf (base : Int) (l : List Int) : Int := base + (((cntF l).1 - 1 : Nat) : Int)
theorem cnt_le : ∀ l : List Int, (cntF l).1 ≤ l.length := by
  intro l
  have : ∀ n (l : List Int), l.length = n → (cntF l).1 ≤ n := by
    intro n
    induction n with
    | zero => intro l h; rw [List.eq_nil_of_length_eq_zero h]; decide
    | succ n ih =>
      intro l h
      obtain ⟨q, b, rfl⟩ : ∃ q b, l = q ++ [b] := ⟨l.dropLast, l.getLast (by intro e; rw [e] at h; cases h), (List.dropLast_concat_getLast _).symm⟩
      have := ih q (by simpa using h)
      rw [cntF_snoc]
      dsimp only
      split <;> omega
  exact this _ l rfl
include hg in
theorem at_ok {row col : Int} (h1 : 0 ≤ row ∧ row ≤ h - 1) (h2 : 0 ≤ col ∧ col ≤ w - 1) : spec_l2At.f w h cs row col = some (rd cs (row * w + col)) ∧ impl_Chart_at.f w h cs row col = some (rd cs (row * w + col)) ∧ 0 ≤ rd cs (row * w + col) := by
  obtain ⟨⟨w1, w2⟩, ⟨a1, a2⟩, hl, hl2, hc⟩ := goodC_at hg
  have m1 := mul_b (a := row) (b := w) (A := 7) (B := 8) (by omega) (by omega) (by omega) (by omega)
  have m2 : row * w ≤ (h - 1) * w := Int.mul_le_mul_of_nonneg_right h1.2 (by omega)
  have m3 : (h - 1) * w = w * h - w := by rw [Int.sub_mul, Int.one_mul, Int.mul_comm]
  have e1 : wrap64 (wrap64 (row * w) + col) = row * w + col := by rw [w64 (x := row * w) (by omega), w64 (by omega)]
  unfold spec_l2At.f impl_Chart_at.f
  rw [e1]
  have p1 : 0 ≤ row * w + col := by omega
  have p2 : row * w + col < (cs.length : Int) := by omega
  refine ⟨by rw [if_pos p1, if_pos p2], by rw [if_pos p1, if_pos p2], ?_⟩
  have := (hc (row * w + col).toNat (by omega)).1
  rw [show rd cs (row * w + col) = nth cs (row * w + col).toNat 0 from by unfold rd nth; simp]
  exact this
include hg hx hb in
theorem rowLoop (row : Int) (hr : x.f0 ≤ row ∧ row ≤ x.f2) : ∀ (d : Nat) (col : Int) (acc : List Int), x.f3 + 1 - col = (d : Int) → x.f1 ≤ col → acc.length + d ≤ 64 → inv acc → (∀ y ∈ acc, 0 ≤ y) →
    inv (acc ++ rowL cs w row col d) ∧ (∀ y ∈ acc ++ rowL cs w row col d, 0 ≤ y) ∧
    (∀ r, Ev (fun k => impl_Chart_lost.l0 k (acc ++ rowL cs w row col d) (wrap64 (row - 1)) w h cs x.f0 x.f1 x.f2 x.f3) r → Ev (fun k => impl_Chart_lost.l1 k acc row col w h cs x.f0 x.f1 x.f2 x.f3) r) ∧
    (∀ r, Ev (fun k => spec_l23Minutes.l0 k (nOf base (acc ++ rowL cs w row col d)) (cntF (acc ++ rowL cs w row col d)).2 (wrap64 (row - 1)) w h cs x.f0 x.f1 x.f2 x.f3) r → Ev (fun k => spec_l23Minutes.l1 k (nOf base acc) (cntF acc).2 row col w h cs x.f0 x.f1 x.f2 x.f3) r) := by
  obtain ⟨⟨w1, w2⟩, ⟨a1, a2⟩, _⟩ := goodC_at hg
  have ho := hx
  unfold okH at ho
  rw [decide_eq_true_iff] at ho
  obtain ⟨o1, o2, o3, o4⟩ := ho
  intro d
  induction d with
  | zero =>
    intro col acc hd hc hl hi ha
    simp only [rowL, List.append_nil]
    refine ⟨hi, ha, fun r hE => Ev.succ ?_, fun r hE => Ev.succ ?_⟩
    · simp only [impl_Chart_lost.l1, if_neg (show ¬ (col ≤ x.f3) by omega)]
      exact hE
    · simp only [spec_l23Minutes.l1, if_neg (show ¬ (col ≤ x.f3) by omega)]
      exact hE
  | succ d ih =>
    intro col acc hd hc hl hi ha
    obtain ⟨q1, q2, q3⟩ := at_ok hg (row := row) (col := col) (by omega) (by omega)
    have hcl := cnt_le acc
    have hnext := ih (col + 1) (acc ++ [rd cs (row * w + col)]) (by omega) (by omega) (by simp; omega) (inv_snoc hi q3) (fun y hy => by
      rcases List.mem_append.1 hy with hy | hy
      · exact ha y hy
      · rw [List.mem_singleton.1 hy]; exact q3)
    simp only [List.append_assoc, List.singleton_append] at hnext
    obtain ⟨n1, n2, n3, n4⟩ := hnext
    have hs := cntF_snoc acc (rd cs (row * w + col))
    simp only [rowL]
    have hw : wrap64 (col + 1) = col + 1 := w64 (by omega)
    refine ⟨n1, n2, fun r hE => Ev.succ ?_, fun r hE => Ev.succ ?_⟩
    · simp only [impl_Chart_lost.l1, if_pos (show col ≤ x.f3 by omega), q2, Option.bind_some, if_pos (show acc.length < 17592186044416 by omega), hw]
      exact n3 r hE
    · have hgo := n4 r hE
      simp only [spec_l23Minutes.l1, if_pos (show col ≤ x.f3 by omega), q1, Option.bind_some, hw]
      unfold nOf at hgo ⊢
      rw [hs] at hgo
      dsimp only at hgo
      by_cases he : rd cs (row * w + col) = (cntF acc).2
      · simp only [if_pos he] at hgo ⊢
        rw [he] at hgo
        exact hgo
      · simp only [if_neg he] at hgo ⊢
        by_cases h0 : (cntF acc).2 ≥ 0
        · simp only [if_pos h0]
          have h1 : 1 ≤ (cntF acc).1 := by
            rcases hi with h | h
            · exact h.1
            · rw [h] at h0; exact absurd h0 (by decide)
          rw [w64 (by omega), show base + (((cntF acc).1 - 1 : Nat) : Int) + 1 = base + (((cntF acc).1 + 1 - 1 : Nat) : Int) by omega]
          exact hgo
        · simp only [if_neg h0]
          have h1 : (cntF acc).1 = 0 := by
            rcases hi with h | h
            · exact absurd h.2 h0
            · rw [h]
          rw [show (((cntF acc).1 - 1 : Nat) : Int) = (((cntF acc).1 + 1 - 1 : Nat) : Int) by omega]
          exact hgo
include hg hx hb in
theorem allLoop : ∀ (d : Nat) (row : Int) (acc : List Int), row - x.f0 + 1 = (d : Int) → row ≤ x.f2 → acc.length + d * (x.f3 - x.f1 + 1).toNat ≤ 64 → inv acc → (∀ y ∈ acc, 0 ≤ y) →
    (inv (acc ++ allL cs w x.f1 (x.f3 - x.f1 + 1).toNat row d) ∧ (∀ y ∈ acc ++ allL cs w x.f1 (x.f3 - x.f1 + 1).toNat row d, 0 ≤ y)) ∧ Ev (fun k => impl_Chart_lost.l0 k acc row w h cs x.f0 x.f1 x.f2 x.f3) (acc ++ allL cs w x.f1 (x.f3 - x.f1 + 1).toNat row d) ∧
    Ev (fun k => spec_l23Minutes.l0 k (nOf base acc) (cntF acc).2 row w h cs x.f0 x.f1 x.f2 x.f3) (nOf base (acc ++ allL cs w x.f1 (x.f3 - x.f1 + 1).toNat row d)) := by
  obtain ⟨⟨w1, w2⟩, ⟨a1, a2⟩, _⟩ := goodC_at hg
  have ho := hx
  unfold okH at ho
  rw [decide_eq_true_iff] at ho
  obtain ⟨o1, o2, o3, o4⟩ := ho
  intro d
  induction d with
  | zero =>
    intro row acc hd hr hl hi ha
    simp only [allL, List.append_nil]
    refine ⟨⟨hi, ha⟩, Ev.succ ?_, Ev.succ ?_⟩
    · simp only [impl_Chart_lost.l0, if_neg (show ¬ (row ≥ x.f0) by omega)]
      exact Ev.now _
    · simp only [spec_l23Minutes.l0, if_neg (show ¬ (row ≥ x.f0) by omega)]
      exact Ev.now _
  | succ d ih =>
    intro row acc hd hr hl hi ha
    rw [Nat.add_mul, Nat.one_mul] at hl
    have hw : wrap64 (row - 1) = row - 1 := w64 (by omega)
    obtain ⟨r1, r2, r3, r4⟩ := rowLoop hg hx base hb row ⟨by omega, hr⟩ (x.f3 - x.f1 + 1).toNat x.f1 acc (by omega) (by omega) (by omega) hi ha
    rw [hw] at r3 r4
    obtain ⟨n1, n2, n3⟩ := ih (row - 1) (acc ++ rowL cs w row x.f1 (x.f3 - x.f1 + 1).toNat) (by omega) (by omega) (by rw [List.length_append, rowL_len]; omega) r1 r2
    simp only [List.append_assoc] at n1 n2 n3
    simp only [allL]
    refine ⟨n1, Ev.succ ?_, Ev.succ ?_⟩
    · simp only [impl_Chart_lost.l0, if_pos (show row ≥ x.f0 by omega)]
      exact r3 _ n2
    · simp only [spec_l23Minutes.l0, if_pos (show row ≥ x.f0 by omega)]
      exact r4 _ n3
/-- The minutes of a hole. -/
def mm (w : Int) (cs : List Int) (x : S76) : Int := 2 * ((lostL w cs x).length : Int) + ((Lib.compact (lostL w cs x)).length : Int) - 1
include hg hx in
theorem lostE : (Ev (fun k => impl_Chart_lost.f k w h cs x.f0 x.f1 x.f2 x.f3) (lostL w cs x)) ∧ Ev (fun k => spec_l23Minutes.f k w h cs x.f0 x.f1 x.f2 x.f3) (mm w cs x) ∧ 1 ≤ (lostL w cs x).length ∧ (lostL w cs x).length ≤ 64 ∧ 0 ≤ mm w cs x ∧ mm w cs x ≤ 200 := by
  obtain ⟨⟨w1, w2⟩, ⟨a1, a2⟩, _⟩ := goodC_at hg
  have ho := hx
  unfold okH at ho
  rw [decide_eq_true_iff] at ho
  obtain ⟨o1, o2, o3, o4⟩ := ho
  have hlen : (lostL w cs x).length = (x.f2 - x.f0 + 1).toNat * (x.f3 - x.f1 + 1).toNat := allL_len _ _ _ _ _ _
  have hm := Nat.mul_le_mul (show (x.f2 - x.f0 + 1).toNat ≤ 8 by omega) (show (x.f3 - x.f1 + 1).toNat ≤ 8 by omega)
  have hm1 := Nat.mul_le_mul (show 1 ≤ (x.f2 - x.f0 + 1).toNat by omega) (show 1 ≤ (x.f3 - x.f1 + 1).toNat by omega)
  have hk : (x.f2 - x.f0 + 1) * (x.f3 - x.f1 + 1) = ((lostL w cs x).length : Int) := by
    rw [hlen, Int.natCast_mul, Int.toNat_of_nonneg (by omega), Int.toNat_of_nonneg (by omega)]
  obtain ⟨⟨i1, i2⟩, e1, e2⟩ := allLoop hg hx (2 * ((lostL w cs x).length : Int)) (by omega) (x.f2 - x.f0 + 1).toNat x.f2 [] (by omega) (by omega) (by simp; omega) (.inr rfl) (by simp)
  simp only [List.nil_append] at i1 i2 e1 e2
  have hcc : (cntF (lostL w cs x)).1 = (Lib.compact (lostL w cs x)).length := cnt_compact i2
  have hcl := cnt_le (lostL w cs x)
  have hc1 : 1 ≤ (cntF (lostL w cs x)).1 := by
    rcases i1 with h | h
    · exact h.1
    · exfalso
      have hne : (lostL w cs x) ≠ [] := fun e => by rw [e] at hlen; simp at hlen; omega
      have hq : (Lib.compact (lostL w cs x)).length = 0 := by rw [← hcc]; show (cntF (allL _ _ _ _ _ _)).1 = 0; rw [h]
      have : ∀ m, 1 ≤ m → 1 ≤ (Lib.compactUpTo (lostL w cs x).toArray m).length := by
        intro m hm
        induction m with
        | zero => omega
        | succ m ih =>
          rw [Lib.compactUpTo_succ, List.length_append]
          rcases Nat.eq_zero_or_pos m with h0 | h0
          · subst h0; rw [Lib.keeps_lt_one _ 0 (by omega)]; simp
          · have := ih h0; omega
      have h2 := this (lostL w cs x).length (by omega)
      unfold Lib.compact at hq
      omega
  have hmm : nOf (2 * ((lostL w cs x).length : Int)) (lostL w cs x) = mm w cs x := by unfold nOf mm; rw [← hcc]; omega
  refine ⟨e1, ?_, by omega, by omega, by rw [← hmm]; unfold nOf; omega, by rw [← hmm]; unfold nOf; omega⟩
  unfold spec_l23Minutes.f spec_l23Knots.f
  simp only [Option.bind_some]
  rw [w64 (x := x.f2 - x.f0) (by omega), w64 (x := x.f2 - x.f0 + 1) (by omega), w64 (x := x.f3 - x.f1) (by omega), w64 (x := x.f3 - x.f1 + 1) (by omega), hk, w64 (x := ((lostL w cs x).length : Int)) (by omega), w64 (x := 2 * ((lostL w cs x).length : Int)) (by omega)]
  have e3 : nOf (2 * ((lostL w cs x).length : Int)) [] = 2 * ((lostL w cs x).length : Int) := by unfold nOf; show _ + ((0 - 1 : Nat) : Int) = _; omega
  rw [e3] at e2
  rw [← hmm]
  exact e2
end
end MN
end Go.Proofs.Ytkglpfdoefdhdaa.M

namespace Go.Proofs
shelf_lay_g SlLaysN.n43 Slgn 43 at Try 159 as Try.layCompact
end Go.Proofs
namespace Go.Proofs.Ytkglpfdoefdhdaa.WK
open Go Go.RowKit Go.Proofs.Ytkglpfdoefdhdaa.Q Go.Proofs.Ytkglpfdoefdhdaa.M Go.Proofs.YtkglpfdoefdhdaaW.PrintWords Go.Proofs.YtkglpfdoefdhdaaW.SL
open Go.Proofs.YtkglpfdoefdhdaaW.Pl (nth nth_get)
open Go.Proofs.Ytkglpfdoefdhdaa.M.MN (mm lostL lostE)
set_option linter.unusedSimpArgs false
set_option linter.unusedVariables false
set_option maxRecDepth 100000
namespace MO
theorem agg26 : AggT Try.prog 26 3 := ⟨by kernel_rfl⟩
theorem agg76 : AggT Try.prog 76 4 := ⟨by kernel_rfl⟩
theorem en125 : Ent Try.prog 125 := ⟨enters_of Try.func125 (by kernel_rfl) rfl⟩
theorem en159 : Ent Try.prog 159 := ⟨enters_of Try.func159 (by kernel_rfl) rfl⟩
theorem comp_ (A : Option Addr) (S : Nat → Prop) (xs : List Int) (c : Nat) {w : World} (h : (Go.Proofs.YtkglpfdoefdhdaaW.SL.Item.row KI 3 0 (.slice A xs.length c) xs).p w S) (hs : xs.length ≤ 1048576) :
    Calls Try.prog 159 #[.slice A xs.length c] w fun e' w' => e' = .returned (.slice A (Lib.compact xs).length c) ∧ ∃ S', (Go.Proofs.YtkglpfdoefdhdaaW.SL.Item.row KI 3 0 (.slice A (Lib.compact xs).length c) (Lib.compact xs)).p w' S' ∧ (∀ k, S' k → k < w.heap.size → S k) ∧ Aft S w w' := compact_I Try.layCompact h (by omega)
set_option maxHeartbeats 4000000 in
/-- How many minutes a hole takes. -/
theorem minutes {wd ht : Int} {cs : List Int} {x : S76} (hg : goodC wd ht cs = true) (hx : okH wd ht x = true) (A0 : Option Addr) (c0 : Nat) (w : World) (hr : Kd.C (Kd.int .i64) w A0 cs.length cs) (hc : cs.length ≤ c0) : Calls Try.prog 122 #[.agg #[.int .i64 wd, .int .i64 ht, .slice A0 cs.length c0], .agg #[.int .i64 x.f0, .int .i64 x.f1, .int .i64 x.f2, .int .i64 x.f3]] w fun e w' => e = .returned (.int .i64 (mm wd cs x)) ∧ Below w.heap.size w w' := by
  obtain ⟨e1, _, l1, l2, l3, l4⟩ := lostE hg hx
  obtain ⟨k, hk⟩ := e1.rounds
  have hcl := compact_len (lostL wd cs x)
  let Rr : Ending → World → Prop := fun e w' => e = .returned (.int .i64 (mm wd cs x)) ∧ Below w.heap.size w w'
  refine enterW (args := [.agg #[.int .i64 wd, .int .i64 ht, .slice A0 cs.length c0], .agg #[.int .i64 x.f0, .int .i64 x.f1, .int .i64 x.f2, .int .i64 x.f3]]) [(fun W => Kd.C (Kd.int .i64) W A0 cs.length cs)] (fun p hp W hb => by rw [List.mem_singleton.1 hp]; exact Kd.C_below hr hb) Try.func122 rfl rfl ?_
  show Cj Try.prog _ _ _ (bodyPost Try.prog Try.f122 Rr) _ _ _
  repeat (first
    | (apply gateO; first
      | refine Jl.yd (Y.mv rfl rfl) rfl rfl rfl ?_
      | refine Jl.yd (Y.asg rfl rfl) rfl rfl rfl ?_
      | refine Jl.yd (Y.ext rfl rfl rfl) rfl rfl rfl ?_
      | refine Jl.yd (Y.pickT rfl rfl rfl) rfl rfl rfl ?_
      | refine Jl.yd (Y.pickF rfl rfl rfl) rfl rfl rfl ?_
      | refine Jl.off rfl rfl rfl ?_
      | refine Jl.yd (Y.cmpF rfl rfl rfl rfl (by omega)) rfl rfl rfl ?_
      | refine Jl.yd (Y.cmpT rfl rfl rfl rfl (by omega)) rfl rfl rfl ?_
      | refine Jl.yd (Y.neqB rfl rfl rfl Try.underlying4) rfl rfl rfl ?_
      | refine Jl.yd (Y.cmp rfl rfl rfl rfl) rfl rfl rfl ?_
      | refine Jl.yd (Y.not rfl rfl) rfl rfl rfl ?_
      | refine Jl.yd (Y.arithN rfl rfl rfl rfl (by omega)) rfl rfl rfl ?_
      | refine Jl.yd (Y.arith64 rfl rfl rfl rfl) rfl rfl rfl ?_
      | refine Jl.yd (Y.loadA rfl rfl agg26 (by repeat (first | exact .head _ | refine .tail _ ?_)) (by rfl)) rfl rfl rfl ?_
      | refine Jl.yd (Y.loadA rfl rfl agg76 (by repeat (first | exact .head _ | refine .tail _ ?_)) (by rfl)) rfl rfl rfl ?_
      | refine Jl.yd (Y.lenS Try.underlying24 rfl rfl rfl) rfl rfl rfl ?_
      | refine Jl.box (zs := [.int .i64 wd, .int .i64 ht, .slice A0 cs.length c0]) rfl rfl rfl rfl rfl (by rfl) (fun gc => ?_)
      | refine Jl.box (zs := [.int .i64 x.f0, .int .i64 x.f1, .int .i64 x.f2, .int .i64 x.f3]) rfl rfl rfl rfl rfl (by rfl) (fun gh => ?_)
      | refine Jl.callR 0 (fun v => v) rfl rfl rfl rfl en125 rfl (fun w hW => by with_reducible exact impl_Chart_lost.calls k wd ht A0 c0 cs x.f0 x.f1 x.f2 x.f3 (lostL wd cs x) w (hW.fact (p := (fun W => Kd.C (Kd.int .i64) W A0 cs.length cs)) (by repeat (first | exact memH | refine memT ?_))) hc hk) (fun Ar cr hlr => ?_)
      | refine Jl.callM (.row KI 3 0 (.slice Ar (lostL wd cs x).length cr) (lostL wd cs x)) (.row KI 3 0 (.slice Ar (Lib.compact (lostL wd cs x)).length cr) (Lib.compact (lostL wd cs x))) (v := .slice Ar (Lib.compact (lostL wd cs x)).length cr) rfl rfl rfl rfl en159 rfl (by with_reducible first | exact .z | exact .s .z | exact .s (.s .z) | exact .s (.s (.s .z))) (fun w A hW hA => by with_reducible exact comp_ _ _ _ _ hA (by omega)) ?_
      | refine Jl.splitG rfl rfl (fun h => ?_) (fun h => ?_))
    | (apply gateE; first
      | refine Jl.nil (Ej.go ?_ (fun _ _ h => h))
      | (refine Jl.nil (Ej.back (fun _ _ h => h) (by repeat (first | exact .refl | apply DropTo.tail)) ?_); repeat (first | exact trivial | refine ⟨rfl, ?_⟩)))
    | (apply gateC; first
      | refine Cj.ret rfl (Ej.out1 (P := Try.prog) (fn := Try.f122) (R := Rr) (fun _ _ h => h) rfl rfl (fun w' hW => ⟨rfl, hW.below⟩))
      | refine Cj.condF rfl rfl (Cj.skip rfl (Ej.go ?_ (fun _ _ h => h)))
      | (refine Cj.condF rfl rfl (Cj.skip rfl (Ej.back (fun _ _ h => h) (by repeat (first | exact .refl | apply DropTo.tail)) ?_)); repeat (first | exact trivial | refine ⟨rfl, ?_⟩))
      | refine Cj.condF rfl rfl ?_
      | refine Cj.condT rfl rfl ?_
      | refine Cj.exit rfl (Ej.go ?_ (fun _ _ h => h))
      | refine Cj.cond rfl rfl (fun h => ?_) (fun h => ?_)
      | refine Cj.skip rfl (Ej.go ?_ (fun _ _ h => h))
      | (refine Cj.skip rfl (Ej.back (fun _ _ h => h) (by repeat (first | exact .refl | apply DropTo.tail)) ?_); repeat (first | exact trivial | refine ⟨rfl, ?_⟩))
      | refine Cj.seq rfl ?_
      | refine Cj.region rfl ?_))
end MO
end Go.Proofs.Ytkglpfdoefdhdaa.WK

namespace Go.Proofs.Ytkglpfdoefdhdaa.WK
open Go Go.RowKit Go.Proofs.Ytkglpfdoefdhdaa.Q Go.Proofs.YtkglpfdoefdhdaaW.PrintWords Go.Proofs.YtkglpfdoefdhdaaW.Pl Go.Proofs.YtkglpfdoefdhdaaW.SL
set_option linter.unusedSimpArgs false
set_option linter.unusedVariables false
set_option maxRecDepth 100000
namespace Ins165
theorem mixed : Try.prog.follows .mixedOrders = true := by kernel_rfl
theorem sz3 : SzT Try.prog 3 1 := ⟨by kernel_rfl⟩
theorem sc3 : ScT Try.prog 3 := ⟨by kernel_rfl⟩
theorem el24 : ElT Try.prog 24 3 1 := ⟨by kernel_rfl⟩
/-- 'less' on rows of cells. -/
def ltc (cf : List Value → List Value → Int) (x y : List Value) : Bool := decide (cf x y < 0)
set_option maxHeartbeats 8000000 in
theorem run (g : Nat) (lb : Array Value) (eg : Ent Try.prog g) (cf : List Value → List Value → Int) (w0 : World) (h c : Nat) (rows : List (List Value)) (cs : List Value)
    (hh : w0.heap[h]? = some (.cells cs.toArray 3 (0, 0))) (hcl : cs.length = c * 1) (hnc : rows.length ≤ c) (hcx : c ≤ maxLen)
    (hr : ∀ j us, rows[j]? = some us → rowOf 1 cs j = us ∧ us.length = 1 ∧ ∀ u ∈ us, u.oneCell' = true)
    (hC : ∀ W, Aft (fun k => k = h) w0 W → ∀ x y, x ∈ rows → y ∈ rows → Calls Try.prog g (#[hd1 x, hd1 y] ++ lb) W fun e W' => e = .returned (.int .i64 (cf x y)) ∧ Below W.heap.size W W') :
    Calls Try.prog 165 #[.slice (some ⟨h, 0, none⟩) rows.length c, .int .i64 0, .int .i64 (rows.length : Int), .func (.func g) #[] lb] w0 fun e w' => e = .returned (.tuple #[]) ∧ ∃ cs' : List Value, cs'.length = c * 1 ∧ w'.heap[h]? = some (.cells cs'.toArray 3 (0, 0)) ∧ (∀ j us, (isort (ltc cf) rows)[j]? = some us → rowOf 1 cs' j = us) ∧ Aft (fun k => k = h) w0 w' := by
  let Rr : Ending → World → Prop := fun e w' => e = .returned (.tuple #[]) ∧ ∃ cs' : List Value, cs'.length = c * 1 ∧ w'.heap[h]? = some (.cells cs'.toArray 3 (0, 0)) ∧ (∀ j us, (isort (ltc cf) rows)[j]? = some us → rowOf 1 cs' j = us) ∧ Aft (fun k => k = h) w0 w'
  let pC : World → Prop := fun W => ∀ x y, x ∈ rows → y ∈ rows → Calls Try.prog g (#[hd1 x, hd1 y] ++ lb) W fun e W' => e = .returned (.int .i64 (cf x y)) ∧ Below W.heap.size W W'
  have hmx : c ≤ 9223372036854775807 := hcx
  refine enterS (S := fun k => k = h) (args := [.slice (some ⟨h, 0, none⟩) rows.length c, .int .i64 0, .int .i64 (rows.length : Int), .func (.func g) #[] lb]) [.box h 3 cs] [pC] (Own.single ⟨hh, fun k => Iff.rfl⟩) (fun q hq => by
    rw [List.mem_singleton.1 hq]; exact fun W hW => hC W hW) Try.func165 rfl rfl ?_
  show Cj Try.prog _ _ _ (bodyPost Try.prog Try.f165 Rr) _ _ _
  repeat (first
    | (apply gateO; first
      | refine Jl.yd (Y.mv rfl rfl) rfl rfl rfl ?_
      | refine Jl.yd (Y.asg rfl rfl) rfl rfl rfl ?_
      | refine Jl.yd (Y.ext rfl rfl rfl) rfl rfl rfl ?_
      | refine Jl.yd (Y.pickT rfl rfl rfl) rfl rfl rfl ?_
      | refine Jl.yd (Y.pickF rfl rfl rfl) rfl rfl rfl ?_
      | refine Jl.off rfl rfl rfl ?_
      | refine Jl.yd (Y.cmpF rfl rfl rfl rfl (by omega)) rfl rfl rfl ?_
      | refine Jl.yd (Y.cmpT rfl rfl rfl rfl (by omega)) rfl rfl rfl ?_
      | refine Jl.yd (Y.neqB rfl rfl rfl Try.underlying4) rfl rfl rfl ?_
      | refine Jl.yd (Y.cmp rfl rfl rfl rfl) rfl rfl rfl ?_
      | refine Jl.yd (Y.not rfl rfl) rfl rfl rfl ?_
      | refine Jl.yd (Y.arithN rfl rfl rfl rfl (by omega)) rfl rfl rfl ?_
      | refine Jl.yd (Y.arith64 rfl rfl rfl rfl) rfl rfl rfl ?_
      | refine Jl.yd (Y.idx0 rfl rfl rfl el24 (by omega) (by omega)) rfl rfl rfl ?_
      | refine Jl.splitG rfl rfl (fun h => ?_) (fun h => ?_))
    | (apply gateE; first
      | refine Jl.nil (Ej.go ?_ (fun _ _ h => h))
      | (refine Jl.nil (Ej.back (fun _ _ h => h) (by repeat (first | exact .refl | apply DropTo.tail)) ?_); repeat (first | exact trivial | refine ⟨rfl, ?_⟩)))
    | (apply gateC; first
      | refine Cj.block rfl ?_
      | refine Cj.condF rfl rfl (Cj.skip rfl (Ej.go ?_ (fun _ _ h => h)))
      | (refine Cj.condF rfl rfl (Cj.skip rfl (Ej.back (fun _ _ h => h) (by repeat (first | exact .refl | apply DropTo.tail)) ?_)); repeat (first | exact trivial | refine ⟨rfl, ?_⟩))
      | refine Cj.condF rfl rfl ?_
      | refine Cj.condT rfl rfl ?_
      | refine Cj.exit rfl (Ej.go ?_ (fun _ _ h => h))
      | refine Cj.cond rfl rfl (fun h => ?_) (fun h => ?_)
      | refine Cj.skip rfl (Ej.go ?_ (fun _ _ h => h))
      | (refine Cj.skip rfl (Ej.back (fun _ _ h => h) (by repeat (first | exact .refl | apply DropTo.tail)) ?_); repeat (first | exact trivial | refine ⟨rfl, ?_⟩))
      | refine Cj.seq rfl ?_
      | refine Cj.region rfl ?_))
  refine Cj.loop (ι := Nat × List Value) (fun q => (1 ≤ q.1 ∧ (q.1 = 1 ∨ q.1 ≤ rows.length)) ∧ q.2.length = cs.length ∧ ∀ t us, (isort (ltc cf) (rows.take q.1) ++ rows.drop q.1)[t]? = some us → rowOf 1 q.2 t = us)
    (fun q => [(0, .slice (some ⟨h, 0, none⟩) rows.length c), (1, .int .i64 0), (2, .int .i64 (rows.length : Int)), (3, .func (.func g) #[] lb), (8, .int .i64 (q.1 : Int))]) (fun q => [.box h 3 q.2]) (fun _ => [pC]) (fun q => rows.length + 1 - q.1) rfl (1, cs) ⟨⟨Nat.le_refl _, .inl rfl⟩, rfl, fun t us ht => ?_⟩ ⟨rfl, rfl, rfl, rfl, rfl, trivial⟩ rfl (fun p hp => hp) (fun q hq => ?_)
  · have e0 : isort (ltc cf) (rows.take 1) ++ rows.drop 1 = rows := by
      cases rows with
      | nil => rfl
      | cons a r => rfl
    rw [e0] at ht
    exact (hr t us ht).1
  obtain ⟨i, cs1⟩ := q
  obtain ⟨⟨h1, h2⟩, h3, h4⟩ := hq
  dsimp only at h1 h2 h3 h4 ⊢
  by_cases hlt : i < rows.length
  · obtain ⟨x, hxi⟩ : ∃ x, rows[i]? = some x := ⟨_, List.getElem?_eq_getElem hlt⟩
    have hxm := List.mem_of_getElem? hxi
    obtain ⟨_, hxl, hxo⟩ := hr i x hxi
    have htk : rows.take (i + 1) = rows.take i ++ [x] := by rw [List.take_add_one, hxi]; rfl
    have hdr : rows.drop i = x :: rows.drop (i + 1) := by
      rw [List.drop_eq_getElem_cons hlt]; congr 1
      exact (List.getElem?_eq_some_iff.1 hxi).2
    obtain ⟨s, hs⟩ : ∃ s, isort (ltc cf) (rows.take i) = s := ⟨_, rfl⟩
    have hsl : s.length = i := by rw [← hs, isort_len, List.length_take]; omega
    have hsm : ∀ z, z ∈ s → z ∈ rows := fun z hz => List.mem_of_mem_take (isort_mem (hs ▸ hz))
    repeat (first
    | (apply gateO; first
      | refine Jl.yd (Y.mv rfl rfl) rfl rfl rfl ?_
      | refine Jl.yd (Y.asg rfl rfl) rfl rfl rfl ?_
      | refine Jl.yd (Y.ext rfl rfl rfl) rfl rfl rfl ?_
      | refine Jl.yd (Y.pickT rfl rfl rfl) rfl rfl rfl ?_
      | refine Jl.yd (Y.pickF rfl rfl rfl) rfl rfl rfl ?_
      | refine Jl.off rfl rfl rfl ?_
      | refine Jl.yd (Y.cmpF rfl rfl rfl rfl (by omega)) rfl rfl rfl ?_
      | refine Jl.yd (Y.cmpT rfl rfl rfl rfl (by omega)) rfl rfl rfl ?_
      | refine Jl.yd (Y.neqB rfl rfl rfl Try.underlying4) rfl rfl rfl ?_
      | refine Jl.yd (Y.cmp rfl rfl rfl rfl) rfl rfl rfl ?_
      | refine Jl.yd (Y.not rfl rfl) rfl rfl rfl ?_
      | refine Jl.yd (Y.arithN rfl rfl rfl rfl (by omega)) rfl rfl rfl ?_
      | refine Jl.yd (Y.arith64 rfl rfl rfl rfl) rfl rfl rfl ?_
      | refine Jl.yd (Y.idx0 rfl rfl rfl el24 (by omega) (by omega)) rfl rfl rfl ?_
      | refine Jl.splitG rfl rfl (fun h => ?_) (fun h => ?_))
    | (apply gateE; first
      | refine Jl.nil (Ej.go ?_ (fun _ _ h => h))
      | (refine Jl.nil (Ej.back (fun _ _ h => h) (by repeat (first | exact .refl | apply DropTo.tail)) ?_); repeat (first | exact trivial | refine ⟨rfl, ?_⟩)))
    | (apply gateC; first
      | refine Cj.block rfl ?_
      | refine Cj.condF rfl rfl (Cj.skip rfl (Ej.go ?_ (fun _ _ h => h)))
      | (refine Cj.condF rfl rfl (Cj.skip rfl (Ej.back (fun _ _ h => h) (by repeat (first | exact .refl | apply DropTo.tail)) ?_)); repeat (first | exact trivial | refine ⟨rfl, ?_⟩))
      | refine Cj.condF rfl rfl ?_
      | refine Cj.condT rfl rfl ?_
      | refine Cj.exit rfl (Ej.go ?_ (fun _ _ h => h))
      | refine Cj.cond rfl rfl (fun h => ?_) (fun h => ?_)
      | refine Cj.skip rfl (Ej.go ?_ (fun _ _ h => h))
      | (refine Cj.skip rfl (Ej.back (fun _ _ h => h) (by repeat (first | exact .refl | apply DropTo.tail)) ?_); repeat (first | exact trivial | refine ⟨rfl, ?_⟩))
      | refine Cj.seq rfl ?_
      | refine Cj.region rfl ?_))
    refine Cj.loop (ι := List (List Value) × List (List Value) × List Value) (fun p => (p.1.length + p.2.1.length = i ∧ ∀ z, z ∈ p.1 → z ∈ rows) ∧ goI (ltc cf) x p.1 p.2.1 = insR (ltc cf) s x ∧ p.2.2.length = cs.length ∧ ∀ t us, (p.1.reverse ++ x :: (p.2.1 ++ rows.drop (i + 1)))[t]? = some us → rowOf 1 p.2.2 t = us)
      (fun p => [(0, .slice (some ⟨h, 0, none⟩) rows.length c), (1, .int .i64 0), (2, .int .i64 (rows.length : Int)), (3, .func (.func g) #[] lb), (8, .int .i64 (i : Int)), (9, .int .i64 (p.1.length : Int))]) (fun p => [.box h 3 p.2.2]) (fun _ => [pC]) (fun p => p.1.length) rfl (s.reverse, [], cs1) ⟨⟨by simp [hsl], fun z hz => hsm z (List.mem_reverse.1 hz)⟩, rfl, h3, fun t us ht => h4 t us ?_⟩ ⟨rfl, rfl, rfl, rfl, rfl, ?_, trivial⟩ rfl (fun p hp => hp) (fun p hp => ?_)
    · rw [hs, hdr]
      simpa using ht
    · show some (Value.int .i64 (i : Int)) = some (.int .i64 ((s.reverse.length : Nat) : Int))
      rw [List.length_reverse, hsl]
    obtain ⟨A, B, cs2⟩ := p
    obtain ⟨⟨g1, g2⟩, g3, g4, g5⟩ := hp
    dsimp only at g1 g2 g3 g4 g5 ⊢
    have fin : goI (ltc cf) x A B = A.reverse ++ x :: B → ∀ t us, (isort (ltc cf) (rows.take (i + 1)) ++ rows.drop (i + 1))[t]? = some us → rowOf 1 cs2 t = us := fun e t us ht => g5 t us (by
      rw [htk, isort_snoc, hs, ← g3, e] at ht
      simpa using ht)
    cases A with
    | nil =>
      have fin := fin rfl
      repeat (first
    | (apply gateO; first
      | refine Jl.yd (Y.mv rfl rfl) rfl rfl rfl ?_
      | refine Jl.yd (Y.asg rfl rfl) rfl rfl rfl ?_
      | refine Jl.yd (Y.ext rfl rfl rfl) rfl rfl rfl ?_
      | refine Jl.yd (Y.pickT rfl rfl rfl) rfl rfl rfl ?_
      | refine Jl.yd (Y.pickF rfl rfl rfl) rfl rfl rfl ?_
      | refine Jl.off rfl rfl rfl ?_
      | refine Jl.yd (Y.cmpF rfl rfl rfl rfl (by omega)) rfl rfl rfl ?_
      | refine Jl.yd (Y.cmpT rfl rfl rfl rfl (by omega)) rfl rfl rfl ?_
      | refine Jl.yd (Y.neqB rfl rfl rfl Try.underlying4) rfl rfl rfl ?_
      | refine Jl.yd (Y.cmp rfl rfl rfl rfl) rfl rfl rfl ?_
      | refine Jl.yd (Y.not rfl rfl) rfl rfl rfl ?_
      | refine Jl.yd (Y.arithN rfl rfl rfl rfl (by omega)) rfl rfl rfl ?_
      | refine Jl.yd (Y.arith64 rfl rfl rfl rfl) rfl rfl rfl ?_
      | refine Jl.yd (Y.idx0 rfl rfl rfl el24 (by omega) (by omega)) rfl rfl rfl ?_
      | refine Jl.splitG rfl rfl (fun h => ?_) (fun h => ?_))
    | (apply gateE; first
      | refine Jl.nil (Ej.go ?_ (fun _ _ h => h))
      | (refine Jl.nil (Ej.back (fun _ _ h => h) (by repeat (first | exact .refl | apply DropTo.tail)) ?_); repeat (first | exact trivial | refine ⟨rfl, ?_⟩)))
    | (apply gateC; first
      | refine Cj.block rfl ?_
      | refine Cj.regionD rfl (mkD [0, 1, 2, 3, 4, 5, 6, 7, 8, 9, 10, 11, 12, 13, 15, 16] []) [] [0, 1, 2, 3, 4, 5, 6, 7, 8, 9, 10, 11, 12, 13, 14, 15, 16] mixed (by decide +kernel) ?_
      | refine Cj.condF rfl rfl (Cj.skip rfl (Ej.go ?_ (fun _ _ h => h)))
      | (refine Cj.condF rfl rfl (Cj.skip rfl (Ej.back (fun _ _ h => h) (by repeat (first | exact .refl | apply DropTo.tail)) ?_)); repeat (first | exact trivial | refine ⟨rfl, ?_⟩))
      | refine Cj.condF rfl rfl ?_
      | refine Cj.condT rfl rfl ?_
      | refine Cj.exit rfl (Ej.go ?_ (fun _ _ h => h))
      | refine Cj.cond rfl rfl (fun h => ?_) (fun h => ?_)
      | refine Cj.skip rfl (Ej.go ?_ (fun _ _ h => h))
      | (refine Cj.skip rfl (Ej.back (fun _ _ h => h) (by repeat (first | exact .refl | apply DropTo.tail)) ?_); repeat (first | exact trivial | refine ⟨rfl, ?_⟩))
      | refine Cj.seq rfl ?_
      | refine Cj.region rfl ?_))
      refine Jl.nil (Ej.cut (ι := Nat × List Value) _ _ _ _ (fun _ _ h => h) (i + 1, cs2) ⟨⟨⟨by omega, .inr (by omega)⟩, g4, fin⟩, by dsimp only; omega⟩ ⟨rfl, rfl, rfl, rfl, rfl, trivial⟩ rfl (fun p hp => hp))
    | cons y A =>
      obtain ⟨j, hj⟩ : ∃ j, A.length = j := ⟨_, rfl⟩
      have hym := g2 y List.mem_cons_self
      obtain ⟨ty, hty⟩ := List.getElem?_of_mem hym
      obtain ⟨_, hyl, hyo⟩ := hr ty y hty
      have hji : j + 1 ≤ i := by rw [List.length_cons] at g1; omega
      have hrowy : rowOf 1 cs2 (((j + 1 : Nat) : Int) - 1).toNat = y := g5 _ y (by
        rw [show (((j + 1 : Nat) : Int) - 1).toNat = j by omega, List.reverse_cons, List.append_assoc, List.getElem?_append_right (by rw [List.length_reverse, hj]; exact Nat.le_refl _), List.length_reverse, hj, Nat.sub_self]; rfl)
      have hrowx : rowOf 1 cs2 (((j + 1 : Nat) : Int)).toNat = x := g5 _ x (by
        rw [Int.toNat_natCast, List.getElem?_append_right (by rw [List.length_reverse, List.length_cons, hj]; exact Nat.le_refl _), List.length_reverse, List.length_cons, hj, Nat.sub_self]; rfl)
      have close_ : ∀ w its, WS ⟨w0, fun k => k = h⟩ w its [pC] → Calls Try.prog g (#[] ++ [hd1 x, hd1 y].toArray ++ lb) w fun e w' => e = .returned (.int .i64 (cf x y)) ∧ Below w.heap.size w w' := fun w its hW => by
        have := hW.at 0 rfl x y hxm hym
        rw [Array.empty_append]
        exact this
      rw [show (((y :: A).length : Nat) : Int) = ((j + 1 : Nat) : Int) by rw [List.length_cons, hj]]
      by_cases hc : cf x y < 0
      · have hcs : cs2.length = c * 1 := by omega
        have hoff1 : (((j + 1 : Nat) : Int)).toNat * 1 + y.length ≤ cs2.length := by rw [Int.toNat_natCast, hyl, hcs]; omega
        have hoff2 : (((j + 1 : Nat) : Int) - 1).toNat * 1 + x.length ≤ (wr cs2 ((((j + 1 : Nat) : Int)).toNat * 1) y).length := by rw [wr_length hoff1, show (((j + 1 : Nat) : Int) - 1).toNat = j by omega, hxl, hcs]; omega
        repeat (first
    | (apply gateO; first
      | refine Jl.yd (Y.mv rfl rfl) rfl rfl rfl ?_
      | refine Jl.yd (Y.asg rfl rfl) rfl rfl rfl ?_
      | refine Jl.yd (Y.ext rfl rfl rfl) rfl rfl rfl ?_
      | refine Jl.yd (Y.pickT rfl rfl rfl) rfl rfl rfl ?_
      | refine Jl.yd (Y.pickF rfl rfl rfl) rfl rfl rfl ?_
      | refine Jl.off rfl rfl rfl ?_
      | refine Jl.yd (Y.cmpF rfl rfl rfl rfl (by omega)) rfl rfl rfl ?_
      | refine Jl.yd (Y.cmpT rfl rfl rfl rfl (by omega)) rfl rfl rfl ?_
      | refine Jl.yd (Y.neqB rfl rfl rfl Try.underlying4) rfl rfl rfl ?_
      | refine Jl.yd (Y.cmp rfl rfl rfl rfl) rfl rfl rfl ?_
      | refine Jl.yd (Y.not rfl rfl) rfl rfl rfl ?_
      | refine Jl.yd (Y.arithN rfl rfl rfl rfl (by omega)) rfl rfl rfl ?_
      | refine Jl.yd (Y.arith64 rfl rfl rfl rfl) rfl rfl rfl ?_
      | refine Jl.yd (Y.idx0 rfl rfl rfl el24 (by omega) (by omega)) rfl rfl rfl ?_
      | refine Jl.yd (Y.loadE1 rfl rfl sc3 (by repeat (first | exact .head _ | refine .tail _ ?_)) hrowx hxl) rfl rfl rfl ?_
      | refine Jl.yd (Y.loadE1 rfl rfl sc3 (by repeat (first | exact .head _ | refine .tail _ ?_)) hrowy hyl) rfl rfl rfl ?_
      | refine Jl.callc (v := .int .i64 (cf x y)) rfl rfl rfl rfl rfl eg rfl (fun w hW => close_ w _ hW) ?_
      | refine Jl.splitG rfl rfl (fun h => ?_) (fun h => ?_))
    | (apply gateE; first
      | refine Jl.nil (Ej.go ?_ (fun _ _ h => h))
      | (refine Jl.nil (Ej.back (fun _ _ h => h) (by repeat (first | exact .refl | apply DropTo.tail)) ?_); repeat (first | exact trivial | refine ⟨rfl, ?_⟩)))
    | (apply gateC; first
      | refine Cj.block rfl ?_
      | refine Cj.regionD rfl (mkD [0, 1, 2, 3, 4, 5, 6, 7, 8, 9, 10, 11, 12, 13, 15, 16] []) [] [0, 1, 2, 3, 4, 5, 6, 7, 8, 9, 10, 11, 12, 13, 14, 15, 16] mixed (by decide +kernel) ?_
      | refine Cj.condF rfl rfl (Cj.skip rfl (Ej.go ?_ (fun _ _ h => h)))
      | (refine Cj.condF rfl rfl (Cj.skip rfl (Ej.back (fun _ _ h => h) (by repeat (first | exact .refl | apply DropTo.tail)) ?_)); repeat (first | exact trivial | refine ⟨rfl, ?_⟩))
      | refine Cj.condF rfl rfl ?_
      | refine Cj.condT rfl rfl ?_
      | refine Cj.exit rfl (Ej.go ?_ (fun _ _ h => h))
      | refine Cj.cond rfl rfl (fun h => ?_) (fun h => ?_)
      | refine Cj.skip rfl (Ej.go ?_ (fun _ _ h => h))
      | (refine Cj.skip rfl (Ej.back (fun _ _ h => h) (by repeat (first | exact .refl | apply DropTo.tail)) ?_); repeat (first | exact trivial | refine ⟨rfl, ?_⟩))
      | refine Cj.seq rfl ?_
      | refine Cj.region rfl ?_))
        refine Cj.regionJ rfl [15, 17] mixed ?_
        refine Jw.take 0 rfl (by decide +kernel) (by intro c a d v w h; cases d <;> exact h) (fun w => Y.mv rfl rfl) rfl rfl rfl ?_
        refine Jw.take 1 rfl (by decide +kernel) (by intro c a d v w h; cases d <;> exact h) (fun w => Y.mv rfl rfl) rfl rfl rfl ?_
        refine Jw.take 2 rfl (by decide +kernel) (by intro c a d v w h; cases d <;> exact h) (fun w => Y.mv rfl rfl) rfl rfl rfl ?_
        refine Jw.take 3 rfl (by decide +kernel) (by intro c a d v w h; cases d <;> exact h) (fun w => Y.mv rfl rfl) rfl rfl rfl ?_
        refine Jw.take 5 rfl (by decide +kernel) (by intro c a d v w h; cases d <;> exact h) (fun w => Y.mv rfl rfl) rfl rfl rfl ?_
        refine Jw.take 6 rfl (by decide +kernel) (by intro c a d v w h; cases d <;> exact h) (fun w => Y.mv rfl rfl) rfl rfl rfl ?_
        refine Jw.take 10 rfl (by decide +kernel) (by intro c a d v w h; cases d <;> exact h) (fun w => Y.mv rfl rfl) rfl rfl rfl ?_
        refine Jw.take 11 rfl (by decide +kernel) (by intro c a d v w h; cases d <;> exact h) (fun w => Y.mv rfl rfl) rfl rfl rfl ?_
        refine Jw.take 4 rfl (by decide +kernel) (by intro c a d v w h; cases d <;> exact h) (fun w => Y.arithN rfl rfl rfl rfl (by omega)) rfl rfl rfl ?_
        refine Jw.take 7 rfl (by decide +kernel) (by intro c a d v w h; cases d <;> exact h) (fun w => Y.arithN rfl rfl rfl rfl (by omega)) rfl rfl rfl ?_
        refine Jw.take 8 rfl (by decide +kernel) (by intro c a d v w h; cases d <;> exact h) (fun w => Y.idx0 rfl rfl rfl el24 (by omega) (by omega)) rfl rfl rfl ?_
        refine Jw.take 12 rfl (by decide +kernel) (by intro c a d v w h; cases d <;> exact h) (fun w => Y.idx0 rfl rfl rfl el24 (by omega) (by omega)) rfl rfl rfl ?_
        refine Jw.takeR 9 rfl (by decide +kernel) (by intro c a d v w h; cases d <;> exact h) (Y.loadE1 rfl rfl sc3 (by repeat (first | exact .head _ | refine .tail _ ?_)) hrowy hyl) rfl rfl rfl ?_
        refine Jw.takeR 13 rfl (by decide +kernel) (by intro c a d v w h; cases d <;> exact h) (Y.loadE1 rfl rfl sc3 (by repeat (first | exact .head _ | refine .tail _ ?_)) hrowx hxl) rfl rfl rfl ?_
        refine Jw.take 14 rfl (by decide +kernel) (by intro c a d v w h; cases d <;> exact h) (fun w => Y.idx0 rfl rfl rfl el24 (by omega) (by omega)) rfl rfl rfl ?_
        refine Jw.step (mkD [] [0]) 15 rfl (by decide +kernel) rfl rfl ?_
        refine Jl.storeB1 rfl rfl rfl rfl rfl sz3 (by repeat (first | exact .z | apply SetAt.s)) hyl hoff1 hyo ?_
        refine Jl.jw ?_
        refine Jw.take 16 rfl (by decide +kernel) (by intro c a d v w h; cases d <;> exact h) (fun w => Y.idx0 rfl rfl rfl el24 (by omega) (by omega)) rfl rfl rfl ?_
        refine Jw.step (mkD [] [0]) 17 rfl (by decide +kernel) rfl rfl ?_
        refine Jl.storeB1 rfl rfl rfl rfl rfl sz3 (by repeat (first | exact .z | apply SetAt.s)) hxl hoff2 hxo ?_
        refine Jl.jw ?_
        refine Jw.done (by decide +kernel) (Ej.go ?_ (fun _ _ h => h))
        repeat (first
    | (apply gateO; first
      | refine Jl.yd (Y.mv rfl rfl) rfl rfl rfl ?_
      | refine Jl.yd (Y.asg rfl rfl) rfl rfl rfl ?_
      | refine Jl.yd (Y.ext rfl rfl rfl) rfl rfl rfl ?_
      | refine Jl.yd (Y.pickT rfl rfl rfl) rfl rfl rfl ?_
      | refine Jl.yd (Y.pickF rfl rfl rfl) rfl rfl rfl ?_
      | refine Jl.off rfl rfl rfl ?_
      | refine Jl.yd (Y.cmpF rfl rfl rfl rfl (by omega)) rfl rfl rfl ?_
      | refine Jl.yd (Y.cmpT rfl rfl rfl rfl (by omega)) rfl rfl rfl ?_
      | refine Jl.yd (Y.neqB rfl rfl rfl Try.underlying4) rfl rfl rfl ?_
      | refine Jl.yd (Y.cmp rfl rfl rfl rfl) rfl rfl rfl ?_
      | refine Jl.yd (Y.not rfl rfl) rfl rfl rfl ?_
      | refine Jl.yd (Y.arithN rfl rfl rfl rfl (by omega)) rfl rfl rfl ?_
      | refine Jl.yd (Y.arith64 rfl rfl rfl rfl) rfl rfl rfl ?_
      | refine Jl.yd (Y.idx0 rfl rfl rfl el24 (by omega) (by omega)) rfl rfl rfl ?_
      | refine Jl.splitG rfl rfl (fun h => ?_) (fun h => ?_))
    | (apply gateE; first
      | refine Jl.nil (Ej.go ?_ (fun _ _ h => h))
      | (refine Jl.nil (Ej.back (fun _ _ h => h) (by repeat (first | exact .refl | apply DropTo.tail)) ?_); repeat (first | exact trivial | refine ⟨rfl, ?_⟩)))
    | (apply gateC; first
      | refine Cj.block rfl ?_
      | refine Cj.condF rfl rfl (Cj.skip rfl (Ej.go ?_ (fun _ _ h => h)))
      | (refine Cj.condF rfl rfl (Cj.skip rfl (Ej.back (fun _ _ h => h) (by repeat (first | exact .refl | apply DropTo.tail)) ?_)); repeat (first | exact trivial | refine ⟨rfl, ?_⟩))
      | refine Cj.condF rfl rfl ?_
      | refine Cj.condT rfl rfl ?_
      | refine Cj.exit rfl (Ej.go ?_ (fun _ _ h => h))
      | refine Cj.cond rfl rfl (fun h => ?_) (fun h => ?_)
      | refine Cj.skip rfl (Ej.go ?_ (fun _ _ h => h))
      | (refine Cj.skip rfl (Ej.back (fun _ _ h => h) (by repeat (first | exact .refl | apply DropTo.tail)) ?_); repeat (first | exact trivial | refine ⟨rfl, ?_⟩))
      | refine Cj.seq rfl ?_
      | refine Cj.region rfl ?_))
        refine Jl.nil (Ej.cut (ι := List (List Value) × List (List Value) × List Value) _ _ _ _ (fun _ _ h => h) (A, y :: B, wr (wr cs2 ((((j + 1 : Nat) : Int)).toNat * 1) y) ((((j + 1 : Nat) : Int) - 1).toNat * 1) x) ⟨⟨⟨by simp only [List.length_cons] at g1 ⊢; omega, fun z hz => g2 z (List.mem_cons_of_mem _ hz)⟩, ?_, ?_, ?_⟩, by dsimp only; rw [List.length_cons]; exact Nat.lt_succ_self _⟩ ⟨rfl, rfl, rfl, rfl, rfl, ?_, trivial⟩ rfl (fun p hp => hp))
        · rw [← g3]
          conv => rhs; unfold goI
          rw [if_pos (by unfold ltc; simpa using hc)]
        · dsimp only
          rw [wr_length hoff2, wr_length hoff1]
          exact g4
        · dsimp only
          rw [show (((j + 1 : Nat) : Int) - 1).toNat = j by omega, Int.toNat_natCast] at *
          intro t us ht
          have hAl : A.reverse.length = j := by rw [List.length_reverse, hj]
          have old : ∀ t us, (A.reverse ++ y :: x :: (B ++ rows.drop (i + 1)))[t]? = some us → rowOf 1 cs2 t = us := fun t us h => g5 t us (by rw [List.reverse_cons, List.append_assoc]; exact h)
          rcases Nat.lt_trichotomy t j with h | h | h
          · rw [rowOf_wr_lt hoff2 h, rowOf_wr_lt hoff1 (by omega)]
            refine old t us ?_
            rw [List.getElem?_append_left (by omega)] at ht ⊢
            exact ht
          · subst h
            rw [List.getElem?_append_right (by omega), hAl, Nat.sub_self] at ht
            obtain rfl : x = us := by simpa using ht
            exact rowOf_wr_eq hxl (by rw [hxl] at hoff2; exact hoff2)
          · rw [rowOf_wr_gt hoff2 (by omega) h]
            rw [List.getElem?_append_right (by omega), hAl] at ht
            by_cases h' : t = j + 1
            · subst h'
              rw [show j + 1 - j = 1 by omega] at ht
              obtain rfl : y = us := by simpa using ht
              exact rowOf_wr_eq hyl (by rw [hyl] at hoff1; exact hoff1)
            · rw [rowOf_wr_gt hoff1 (by omega) (by omega)]
              refine old t us ?_
              rw [List.getElem?_append_right (by omega), hAl]
              obtain ⟨d, rfl⟩ : ∃ d, t = j + (d + 2) := ⟨t - j - 2, by omega⟩
              rw [show j + (d + 2) - j = d + 2 by omega] at ht ⊢
              simpa using ht
        · show some (Value.int .i64 (((j + 1 : Nat) : Int) - 1)) = some (.int .i64 ((A.length : Nat) : Int))
          rw [hj, show ((j + 1 : Nat) : Int) - 1 = (j : Int) by omega]
      · repeat (first
    | (apply gateO; first
      | refine Jl.yd (Y.mv rfl rfl) rfl rfl rfl ?_
      | refine Jl.yd (Y.asg rfl rfl) rfl rfl rfl ?_
      | refine Jl.yd (Y.ext rfl rfl rfl) rfl rfl rfl ?_
      | refine Jl.yd (Y.pickT rfl rfl rfl) rfl rfl rfl ?_
      | refine Jl.yd (Y.pickF rfl rfl rfl) rfl rfl rfl ?_
      | refine Jl.off rfl rfl rfl ?_
      | refine Jl.yd (Y.cmpF rfl rfl rfl rfl (by omega)) rfl rfl rfl ?_
      | refine Jl.yd (Y.cmpT rfl rfl rfl rfl (by omega)) rfl rfl rfl ?_
      | refine Jl.yd (Y.neqB rfl rfl rfl Try.underlying4) rfl rfl rfl ?_
      | refine Jl.yd (Y.cmp rfl rfl rfl rfl) rfl rfl rfl ?_
      | refine Jl.yd (Y.not rfl rfl) rfl rfl rfl ?_
      | refine Jl.yd (Y.arithN rfl rfl rfl rfl (by omega)) rfl rfl rfl ?_
      | refine Jl.yd (Y.arith64 rfl rfl rfl rfl) rfl rfl rfl ?_
      | refine Jl.yd (Y.idx0 rfl rfl rfl el24 (by omega) (by omega)) rfl rfl rfl ?_
      | refine Jl.yd (Y.loadE1 rfl rfl sc3 (by repeat (first | exact .head _ | refine .tail _ ?_)) hrowx hxl) rfl rfl rfl ?_
      | refine Jl.yd (Y.loadE1 rfl rfl sc3 (by repeat (first | exact .head _ | refine .tail _ ?_)) hrowy hyl) rfl rfl rfl ?_
      | refine Jl.callc (v := .int .i64 (cf x y)) rfl rfl rfl rfl rfl eg rfl (fun w hW => close_ w _ hW) ?_
      | refine Jl.splitG rfl rfl (fun h => ?_) (fun h => ?_))
    | (apply gateE; first
      | refine Jl.nil (Ej.go ?_ (fun _ _ h => h))
      | (refine Jl.nil (Ej.back (fun _ _ h => h) (by repeat (first | exact .refl | apply DropTo.tail)) ?_); repeat (first | exact trivial | refine ⟨rfl, ?_⟩)))
    | (apply gateC; first
      | refine Cj.block rfl ?_
      | refine Cj.regionD rfl (mkD [0, 1, 2, 3, 4, 5, 6, 7, 8, 9, 10, 11, 12, 13, 15, 16] []) [] [0, 1, 2, 3, 4, 5, 6, 7, 8, 9, 10, 11, 12, 13, 14, 15, 16] mixed (by decide +kernel) ?_
      | refine Cj.condF rfl rfl (Cj.skip rfl (Ej.go ?_ (fun _ _ h => h)))
      | (refine Cj.condF rfl rfl (Cj.skip rfl (Ej.back (fun _ _ h => h) (by repeat (first | exact .refl | apply DropTo.tail)) ?_)); repeat (first | exact trivial | refine ⟨rfl, ?_⟩))
      | refine Cj.condF rfl rfl ?_
      | refine Cj.condT rfl rfl ?_
      | refine Cj.exit rfl (Ej.go ?_ (fun _ _ h => h))
      | refine Cj.cond rfl rfl (fun h => ?_) (fun h => ?_)
      | refine Cj.skip rfl (Ej.go ?_ (fun _ _ h => h))
      | (refine Cj.skip rfl (Ej.back (fun _ _ h => h) (by repeat (first | exact .refl | apply DropTo.tail)) ?_); repeat (first | exact trivial | refine ⟨rfl, ?_⟩))
      | refine Cj.seq rfl ?_
      | refine Cj.region rfl ?_))
        have fin := fin (by unfold goI; rw [if_neg (by unfold ltc; simpa using hc)]; simp)
        refine Jl.nil (Ej.cut (ι := Nat × List Value) _ _ _ _ (fun _ _ h => h) (i + 1, cs2) ⟨⟨⟨by omega, .inr (by omega)⟩, g4, fin⟩, by dsimp only; omega⟩ ⟨rfl, rfl, rfl, rfl, rfl, trivial⟩ rfl (fun p hp => hp))
  · repeat (first
    | (apply gateO; first
      | refine Jl.yd (Y.mv rfl rfl) rfl rfl rfl ?_
      | refine Jl.yd (Y.asg rfl rfl) rfl rfl rfl ?_
      | refine Jl.yd (Y.ext rfl rfl rfl) rfl rfl rfl ?_
      | refine Jl.yd (Y.pickT rfl rfl rfl) rfl rfl rfl ?_
      | refine Jl.yd (Y.pickF rfl rfl rfl) rfl rfl rfl ?_
      | refine Jl.off rfl rfl rfl ?_
      | refine Jl.yd (Y.cmpF rfl rfl rfl rfl (by omega)) rfl rfl rfl ?_
      | refine Jl.yd (Y.cmpT rfl rfl rfl rfl (by omega)) rfl rfl rfl ?_
      | refine Jl.yd (Y.neqB rfl rfl rfl Try.underlying4) rfl rfl rfl ?_
      | refine Jl.yd (Y.cmp rfl rfl rfl rfl) rfl rfl rfl ?_
      | refine Jl.yd (Y.not rfl rfl) rfl rfl rfl ?_
      | refine Jl.yd (Y.arithN rfl rfl rfl rfl (by omega)) rfl rfl rfl ?_
      | refine Jl.yd (Y.arith64 rfl rfl rfl rfl) rfl rfl rfl ?_
      | refine Jl.yd (Y.idx0 rfl rfl rfl el24 (by omega) (by omega)) rfl rfl rfl ?_
      | refine Jl.splitG rfl rfl (fun h => ?_) (fun h => ?_))
    | (apply gateE; first
      | refine Jl.nil (Ej.go ?_ (fun _ _ h => h))
      | (refine Jl.nil (Ej.back (fun _ _ h => h) (by repeat (first | exact .refl | apply DropTo.tail)) ?_); repeat (first | exact trivial | refine ⟨rfl, ?_⟩)))
    | (apply gateC; first
      | refine Cj.block rfl ?_
      | refine Cj.condF rfl rfl (Cj.skip rfl (Ej.go ?_ (fun _ _ h => h)))
      | (refine Cj.condF rfl rfl (Cj.skip rfl (Ej.back (fun _ _ h => h) (by repeat (first | exact .refl | apply DropTo.tail)) ?_)); repeat (first | exact trivial | refine ⟨rfl, ?_⟩))
      | refine Cj.condF rfl rfl ?_
      | refine Cj.condT rfl rfl ?_
      | refine Cj.exit rfl (Ej.go ?_ (fun _ _ h => h))
      | refine Cj.cond rfl rfl (fun h => ?_) (fun h => ?_)
      | refine Cj.skip rfl (Ej.go ?_ (fun _ _ h => h))
      | (refine Cj.skip rfl (Ej.back (fun _ _ h => h) (by repeat (first | exact .refl | apply DropTo.tail)) ?_); repeat (first | exact trivial | refine ⟨rfl, ?_⟩))
      | refine Cj.seq rfl ?_
      | refine Cj.region rfl ?_))
    refine Cj.exit rfl (Ej.out0 (P := Try.prog) (fn := Try.f165) (R := Rr) (fun _ _ h => h) rfl (fun w' hW => ?_))
    have hi2 : rows.take i = rows := List.take_of_length_le (by omega)
    have hi3 : rows.drop i = [] := List.drop_eq_nil_of_le (by omega)
    rw [hi2, hi3, List.append_nil] at h4
    exact ⟨rfl, cs1, by omega, Box_at hW (List.mem_cons_self), h4, hW.aft⟩
theorem en165 : Ent Try.prog 165 := ⟨enters_of Try.func165 (by kernel_rfl) rfl⟩
theorem en139 : Ent Try.prog 139 := ⟨enters_of Try.func139 (by kernel_rfl) rfl⟩
theorem en83 : Ent Try.prog 83 := ⟨enters_of Try.func83 (by kernel_rfl) rfl⟩
theorem ins (g : Nat) (lb : Array Value) (eg : Ent Try.prog g) (cf : List Value → List Value → Int) (w : World) (A : Nat → Prop) (h c : Nat) (rows : List (List Value)) (hA : (Item.row (Kd.raw 1) 3 0 (.slice (some ⟨h, 0, none⟩) rows.length c) rows).p w A) (hC : ∀ W, Aft A w W → ∀ x y, x ∈ rows → y ∈ rows → Calls Try.prog g (#[hd1 x, hd1 y] ++ lb) W fun e W' => e = .returned (.int .i64 (cf x y)) ∧ Below W.heap.size W W') : Calls Try.prog 165 #[.slice (some ⟨h, 0, none⟩) rows.length c, .int .i64 0, .int .i64 (rows.length : Int), .func (.func g) #[] lb] w fun e w' => e = .returned (.tuple #[]) ∧ ∃ A', (Item.row (Kd.raw 1) 3 0 (.slice (some ⟨h, 0, none⟩) rows.length c) (isort (ltc cf) rows)).p w' A' ∧ (∀ k, A' k → k < w.heap.size → A k) ∧ Aft A w w' := by
  obtain ⟨cs, hh, hcl, _, hn, hnc, hcx, hr⟩ := raw_box hA.1
  have hAh : A h := hA.1.1 h (by simp [Value.ownBlock])
  have wk : ∀ W, Aft (fun k => k = h) w W → Aft A w W := fun W ha => ⟨ha.os, ha.tape, ha.output, ha.size, fun k hk hn => ha.block k hk (fun e => hn (e ▸ hAh))⟩
  refine (run g lb eg cf w h c rows cs hh hcl (by omega) hcx hr (fun W hW => hC W (wk W hW))).mono ?_
  rintro e w' ⟨rfl, cs', h1, h2, h3, h4⟩
  refine ⟨rfl, fun k => k = h, ⟨box_raw h2 h1 (Nat.zero_le _) (by rw [isort_len]) (by omega) hcx rfl (fun j us hj => ⟨h3 j us hj, ?_⟩), fun k hk => ?_⟩, fun k hk _ => hk ▸ hAh, wk w' h4⟩
  · obtain ⟨t, ht⟩ := List.getElem?_of_mem (isort_mem (List.mem_of_getElem? hj))
    exact (hr t us ht).2
  · rw [hk]
    exact blk_lt h2
set_option maxHeartbeats 4000000 in
theorem stable (g : Nat) (lb : Array Value) (eg : Ent Try.prog g) (cf : List Value → List Value → Int) (w : World) (A : Nat → Prop) (h c : Nat) (rows : List (List Value)) (hA : (Item.row (Kd.raw 1) 3 0 (.slice (some ⟨h, 0, none⟩) rows.length c) rows).p w A) (hC : ∀ W, Aft A w W → ∀ x y, x ∈ rows → y ∈ rows → Calls Try.prog g (#[hd1 x, hd1 y] ++ lb) W fun e W' => e = .returned (.int .i64 (cf x y)) ∧ Below W.heap.size W W') (h12 : rows.length ≤ 12) : Calls Try.prog 139 #[.slice (some ⟨h, 0, none⟩) rows.length c, .int .i64 (rows.length : Int), .func (.func g) #[] lb] w fun e w' => e = .returned (.tuple #[]) ∧ ∃ A', (Item.row (Kd.raw 1) 3 0 (.slice (some ⟨h, 0, none⟩) rows.length c) (isort (ltc cf) rows)).p w' A' ∧ (∀ k, A' k → k < w.heap.size → A k) ∧ Aft A w w' := by
  let Rr : Ending → World → Prop := fun e w' => e = .returned (.tuple #[]) ∧ ∃ A', (Item.row (Kd.raw 1) 3 0 (.slice (some ⟨h, 0, none⟩) rows.length c) (isort (ltc cf) rows)).p w' A' ∧ (∀ k, A' k → k < w.heap.size → A k) ∧ Aft A w w'
  let pC : World → Prop := fun W => ∀ x y, x ∈ rows → y ∈ rows → Calls Try.prog g (#[hd1 x, hd1 y] ++ lb) W fun e W' => e = .returned (.int .i64 (cf x y)) ∧ Below W.heap.size W W'
  refine enterS (S := A) (args := [.slice (some ⟨h, 0, none⟩) rows.length c, .int .i64 (rows.length : Int), .func (.func g) #[] lb]) [.row (Kd.raw 1) 3 0 (.slice (some ⟨h, 0, none⟩) rows.length c) rows] [pC] (Own.single hA) (fun q hq => by rw [List.mem_singleton.1 hq]; exact fun W hW => hC W hW) Try.func139 rfl rfl ?_
  show Cj Try.prog _ _ _ (bodyPost Try.prog Try.f139 Rr) _ _ _
  repeat (first
    | (apply gateO; first
      | refine Jl.yd (Y.mv rfl rfl) rfl rfl rfl ?_
      | refine Jl.yd (Y.asg rfl rfl) rfl rfl rfl ?_
      | refine Jl.yd (Y.ext rfl rfl rfl) rfl rfl rfl ?_
      | refine Jl.yd (Y.pickT rfl rfl rfl) rfl rfl rfl ?_
      | refine Jl.yd (Y.pickF rfl rfl rfl) rfl rfl rfl ?_
      | refine Jl.off rfl rfl rfl ?_
      | refine Jl.yd (Y.cmpF rfl rfl rfl rfl (by omega)) rfl rfl rfl ?_
      | refine Jl.yd (Y.cmpT rfl rfl rfl rfl (by omega)) rfl rfl rfl ?_
      | refine Jl.yd (Y.neqB rfl rfl rfl Try.underlying4) rfl rfl rfl ?_
      | refine Jl.yd (Y.cmp rfl rfl rfl rfl) rfl rfl rfl ?_
      | refine Jl.yd (Y.not rfl rfl) rfl rfl rfl ?_
      | refine Jl.yd (Y.arithN rfl rfl rfl rfl (by omega)) rfl rfl rfl ?_
      | refine Jl.yd (Y.arith64 rfl rfl rfl rfl) rfl rfl rfl ?_
      | refine Jl.splitG rfl rfl (fun h => ?_) (fun h => ?_))
    | (apply gateE; first
      | refine Jl.nil (Ej.go ?_ (fun _ _ h => h))
      | (refine Jl.nil (Ej.back (fun _ _ h => h) (by repeat (first | exact .refl | apply DropTo.tail)) ?_); repeat (first | exact trivial | refine ⟨rfl, ?_⟩)))
    | (apply gateC; first
      | refine Cj.block rfl ?_
      | refine Cj.condF rfl rfl (Cj.skip rfl (Ej.go ?_ (fun _ _ h => h)))
      | (refine Cj.condF rfl rfl (Cj.skip rfl (Ej.back (fun _ _ h => h) (by repeat (first | exact .refl | apply DropTo.tail)) ?_)); repeat (first | exact trivial | refine ⟨rfl, ?_⟩))
      | refine Cj.condF rfl rfl ?_
      | refine Cj.condT rfl rfl ?_
      | refine Cj.exit rfl (Ej.go ?_ (fun _ _ h => h))
      | refine Cj.cond rfl rfl (fun h => ?_) (fun h => ?_)
      | refine Cj.skip rfl (Ej.go ?_ (fun _ _ h => h))
      | (refine Cj.skip rfl (Ej.back (fun _ _ h => h) (by repeat (first | exact .refl | apply DropTo.tail)) ?_); repeat (first | exact trivial | refine ⟨rfl, ?_⟩))
      | refine Cj.seq rfl ?_
      | refine Cj.region rfl ?_))
  refine Cj.loop (ι := Unit) (fun _ => True) (fun p => [(0, .slice (some ⟨h, 0, none⟩) rows.length c), (1, .int .i64 (rows.length : Int)), (2, .func (.func g) #[] lb), (6, .int .i64 20), (7, .int .i64 0), (8, .int .i64 20)]) (fun _ => [.row (Kd.raw 1) 3 0 (.slice (some ⟨h, 0, none⟩) rows.length c) rows]) (fun _ => [pC]) (fun _ => 0) rfl () trivial ⟨rfl, rfl, rfl, rfl, rfl, rfl, trivial⟩ rfl (fun p hp => hp) (fun p hp => ?_)
  repeat (first
    | (apply gateO; first
      | refine Jl.yd (Y.mv rfl rfl) rfl rfl rfl ?_
      | refine Jl.yd (Y.asg rfl rfl) rfl rfl rfl ?_
      | refine Jl.yd (Y.ext rfl rfl rfl) rfl rfl rfl ?_
      | refine Jl.yd (Y.pickT rfl rfl rfl) rfl rfl rfl ?_
      | refine Jl.yd (Y.pickF rfl rfl rfl) rfl rfl rfl ?_
      | refine Jl.off rfl rfl rfl ?_
      | refine Jl.yd (Y.cmpF rfl rfl rfl rfl (by omega)) rfl rfl rfl ?_
      | refine Jl.yd (Y.cmpT rfl rfl rfl rfl (by omega)) rfl rfl rfl ?_
      | refine Jl.yd (Y.neqB rfl rfl rfl Try.underlying4) rfl rfl rfl ?_
      | refine Jl.yd (Y.cmp rfl rfl rfl rfl) rfl rfl rfl ?_
      | refine Jl.yd (Y.not rfl rfl) rfl rfl rfl ?_
      | refine Jl.yd (Y.arithN rfl rfl rfl rfl (by omega)) rfl rfl rfl ?_
      | refine Jl.yd (Y.arith64 rfl rfl rfl rfl) rfl rfl rfl ?_
      | refine Jl.callX (ι := Unit) (fun _ => True) (fun _ => .tuple #[]) (.row (Kd.raw 1) 3 0 (.slice (some ⟨h, 0, none⟩) rows.length c) rows) (fun _ => (.row (Kd.raw 1) 3 0 (.slice (some ⟨h, 0, none⟩) rows.length c) (isort (ltc cf) rows))) rfl rfl rfl rfl en165 rfl .z (fun w A' hA' hB => (ins g lb eg cf w A' h c rows hA' (fun W hW => (hB W hW).at 0 rfl)).mono (fun e w' hh => ⟨(), trivial, hh.1, hh.2⟩)) (fun _ _ => ?_)
      | refine Jl.splitG rfl rfl (fun h => ?_) (fun h => ?_))
    | (apply gateE; first
      | refine Jl.nil (Ej.go ?_ (fun _ _ h => h))
      | (refine Jl.nil (Ej.back (fun _ _ h => h) (by repeat (first | exact .refl | apply DropTo.tail)) ?_); repeat (first | exact trivial | refine ⟨rfl, ?_⟩)))
    | (apply gateC; first
      | refine Cj.block rfl ?_
      | refine Cj.condF rfl rfl (Cj.skip rfl (Ej.go ?_ (fun _ _ h => h)))
      | (refine Cj.condF rfl rfl (Cj.skip rfl (Ej.back (fun _ _ h => h) (by repeat (first | exact .refl | apply DropTo.tail)) ?_)); repeat (first | exact trivial | refine ⟨rfl, ?_⟩))
      | refine Cj.condF rfl rfl ?_
      | refine Cj.condT rfl rfl ?_
      | refine Cj.exit rfl (Ej.go ?_ (fun _ _ h => h))
      | refine Cj.cond rfl rfl (fun h => ?_) (fun h => ?_)
      | refine Cj.skip rfl (Ej.go ?_ (fun _ _ h => h))
      | (refine Cj.skip rfl (Ej.back (fun _ _ h => h) (by repeat (first | exact .refl | apply DropTo.tail)) ?_); repeat (first | exact trivial | refine ⟨rfl, ?_⟩))
      | refine Cj.seq rfl ?_
      | refine Cj.region rfl ?_))
  refine Cj.loop (ι := Unit) (fun _ => True) (fun p => [(0, .slice (some ⟨h, 0, none⟩) rows.length c), (1, .int .i64 (rows.length : Int)), (2, .func (.func g) #[] lb), (6, .int .i64 20), (7, .int .i64 0), (8, .int .i64 20)]) (fun _ => [.row (Kd.raw 1) 3 0 (.slice (some ⟨h, 0, none⟩) rows.length c) (isort (ltc cf) rows)]) (fun _ => [pC]) (fun _ => 0) rfl () trivial ⟨rfl, rfl, rfl, rfl, rfl, rfl, trivial⟩ rfl (fun p hp => hp) (fun p hp => ?_)
  repeat (first
    | (apply gateO; first
      | refine Jl.yd (Y.mv rfl rfl) rfl rfl rfl ?_
      | refine Jl.yd (Y.asg rfl rfl) rfl rfl rfl ?_
      | refine Jl.yd (Y.ext rfl rfl rfl) rfl rfl rfl ?_
      | refine Jl.yd (Y.pickT rfl rfl rfl) rfl rfl rfl ?_
      | refine Jl.yd (Y.pickF rfl rfl rfl) rfl rfl rfl ?_
      | refine Jl.off rfl rfl rfl ?_
      | refine Jl.yd (Y.cmpF rfl rfl rfl rfl (by omega)) rfl rfl rfl ?_
      | refine Jl.yd (Y.cmpT rfl rfl rfl rfl (by omega)) rfl rfl rfl ?_
      | refine Jl.yd (Y.neqB rfl rfl rfl Try.underlying4) rfl rfl rfl ?_
      | refine Jl.yd (Y.cmp rfl rfl rfl rfl) rfl rfl rfl ?_
      | refine Jl.yd (Y.not rfl rfl) rfl rfl rfl ?_
      | refine Jl.yd (Y.arithN rfl rfl rfl rfl (by omega)) rfl rfl rfl ?_
      | refine Jl.yd (Y.arith64 rfl rfl rfl rfl) rfl rfl rfl ?_
      | refine Jl.splitG rfl rfl (fun h => ?_) (fun h => ?_))
    | (apply gateE; first
      | refine Jl.nil (Ej.go ?_ (fun _ _ h => h))
      | (refine Jl.nil (Ej.back (fun _ _ h => h) (by repeat (first | exact .refl | apply DropTo.tail)) ?_); repeat (first | exact trivial | refine ⟨rfl, ?_⟩)))
    | (apply gateC; first
      | refine Cj.block rfl ?_
      | refine Cj.condF rfl rfl (Cj.skip rfl (Ej.go ?_ (fun _ _ h => h)))
      | (refine Cj.condF rfl rfl (Cj.skip rfl (Ej.back (fun _ _ h => h) (by repeat (first | exact .refl | apply DropTo.tail)) ?_)); repeat (first | exact trivial | refine ⟨rfl, ?_⟩))
      | refine Cj.condF rfl rfl ?_
      | refine Cj.condT rfl rfl ?_
      | refine Cj.exit rfl (Ej.go ?_ (fun _ _ h => h))
      | refine Cj.cond rfl rfl (fun h => ?_) (fun h => ?_)
      | refine Cj.skip rfl (Ej.go ?_ (fun _ _ h => h))
      | (refine Cj.skip rfl (Ej.back (fun _ _ h => h) (by repeat (first | exact .refl | apply DropTo.tail)) ?_); repeat (first | exact trivial | refine ⟨rfl, ?_⟩))
      | refine Cj.seq rfl ?_
      | refine Cj.region rfl ?_))
  refine Cj.exit rfl (Ej.out0 (P := Try.prog) (fn := Try.f139) (R := Rr) (fun _ _ h => h) rfl (fun w' hW => ?_))
  obtain ⟨A', g1, g2, g3⟩ := hW.end1
  exact ⟨rfl, A', g1, g2, g3⟩
set_option maxHeartbeats 4000000 in
/-- slices.SortStableFunc at 12 or fewer ints. -/
theorem sortS (g : Nat) (lb : Array Value) (eg : Ent Try.prog g) (cf : List Value → List Value → Int) (w : World) (A : Nat → Prop) (h c : Nat) (rows : List (List Value)) (hA : (Item.row (Kd.raw 1) 3 0 (.slice (some ⟨h, 0, none⟩) rows.length c) rows).p w A) (hC : ∀ W, Aft A w W → ∀ x y, x ∈ rows → y ∈ rows → Calls Try.prog g (#[hd1 x, hd1 y] ++ lb) W fun e W' => e = .returned (.int .i64 (cf x y)) ∧ Below W.heap.size W W') (h12 : rows.length ≤ 12) : Calls Try.prog 83 #[.slice (some ⟨h, 0, none⟩) rows.length c, .func (.func g) #[] lb] w fun e w' => e = .returned (.tuple #[]) ∧ ∃ A', (Item.row (Kd.raw 1) 3 0 (.slice (some ⟨h, 0, none⟩) rows.length c) (isort (ltc cf) rows)).p w' A' ∧ (∀ k, A' k → k < w.heap.size → A k) ∧ Aft A w w' := by
  let Rr : Ending → World → Prop := fun e w' => e = .returned (.tuple #[]) ∧ ∃ A', (Item.row (Kd.raw 1) 3 0 (.slice (some ⟨h, 0, none⟩) rows.length c) (isort (ltc cf) rows)).p w' A' ∧ (∀ k, A' k → k < w.heap.size → A k) ∧ Aft A w w'
  let pC : World → Prop := fun W => ∀ x y, x ∈ rows → y ∈ rows → Calls Try.prog g (#[hd1 x, hd1 y] ++ lb) W fun e W' => e = .returned (.int .i64 (cf x y)) ∧ Below W.heap.size W W'
  refine enterS (S := A) (args := [.slice (some ⟨h, 0, none⟩) rows.length c, .func (.func g) #[] lb]) [.row (Kd.raw 1) 3 0 (.slice (some ⟨h, 0, none⟩) rows.length c) rows] [pC] (Own.single hA) (fun q hq => by rw [List.mem_singleton.1 hq]; exact fun W hW => hC W hW) Try.func83 rfl rfl ?_
  show Cj Try.prog _ _ _ (bodyPost Try.prog Try.f83 Rr) _ _ _
  repeat (first
    | (apply gateO; first
      | refine Jl.yd (Y.mv rfl rfl) rfl rfl rfl ?_
      | refine Jl.yd (Y.asg rfl rfl) rfl rfl rfl ?_
      | refine Jl.yd (Y.ext rfl rfl rfl) rfl rfl rfl ?_
      | refine Jl.yd (Y.pickT rfl rfl rfl) rfl rfl rfl ?_
      | refine Jl.yd (Y.pickF rfl rfl rfl) rfl rfl rfl ?_
      | refine Jl.off rfl rfl rfl ?_
      | refine Jl.yd (Y.cmpF rfl rfl rfl rfl (by omega)) rfl rfl rfl ?_
      | refine Jl.yd (Y.cmpT rfl rfl rfl rfl (by omega)) rfl rfl rfl ?_
      | refine Jl.yd (Y.neqB rfl rfl rfl Try.underlying4) rfl rfl rfl ?_
      | refine Jl.yd (Y.cmp rfl rfl rfl rfl) rfl rfl rfl ?_
      | refine Jl.yd (Y.not rfl rfl) rfl rfl rfl ?_
      | refine Jl.yd (Y.arithN rfl rfl rfl rfl (by omega)) rfl rfl rfl ?_
      | refine Jl.yd (Y.arith64 rfl rfl rfl rfl) rfl rfl rfl ?_
      | refine Jl.yd (Y.lenS Try.underlying24 rfl rfl rfl) rfl rfl rfl ?_
      | refine Jl.callX (ι := Unit) (fun _ => True) (fun _ => .tuple #[]) (.row (Kd.raw 1) 3 0 (.slice (some ⟨h, 0, none⟩) rows.length c) rows) (fun _ => (.row (Kd.raw 1) 3 0 (.slice (some ⟨h, 0, none⟩) rows.length c) (isort (ltc cf) rows))) rfl rfl rfl rfl en139 rfl .z (fun w A' hA' hB => (stable g lb eg cf w A' h c rows hA' (fun W hW => (hB W hW).at 0 rfl) h12).mono (fun e w' hh => ⟨(), trivial, hh.1, hh.2⟩)) (fun _ _ => ?_)
      | refine Jl.splitG rfl rfl (fun h => ?_) (fun h => ?_))
    | (apply gateE; first
      | refine Jl.nil (Ej.go ?_ (fun _ _ h => h))
      | (refine Jl.nil (Ej.back (fun _ _ h => h) (by repeat (first | exact .refl | apply DropTo.tail)) ?_); repeat (first | exact trivial | refine ⟨rfl, ?_⟩)))
    | (apply gateC; first
      | refine Cj.condF rfl rfl (Cj.skip rfl (Ej.go ?_ (fun _ _ h => h)))
      | (refine Cj.condF rfl rfl (Cj.skip rfl (Ej.back (fun _ _ h => h) (by repeat (first | exact .refl | apply DropTo.tail)) ?_)); repeat (first | exact trivial | refine ⟨rfl, ?_⟩))
      | refine Cj.condF rfl rfl ?_
      | refine Cj.condT rfl rfl ?_
      | refine Cj.exit rfl (Ej.go ?_ (fun _ _ h => h))
      | refine Cj.cond rfl rfl (fun h => ?_) (fun h => ?_)
      | refine Cj.skip rfl (Ej.go ?_ (fun _ _ h => h))
      | (refine Cj.skip rfl (Ej.back (fun _ _ h => h) (by repeat (first | exact .refl | apply DropTo.tail)) ?_); repeat (first | exact trivial | refine ⟨rfl, ?_⟩))
      | refine Cj.seq rfl ?_
      | refine Cj.region rfl ?_))
  refine Jl.nil (Ej.out0 (P := Try.prog) (fn := Try.f83) (R := Rr) (fun _ _ h => h) rfl (fun w' hW => ?_))
  obtain ⟨A', g1, g2, g3⟩ := hW.end1
  exact ⟨rfl, A', g1, g2, g3⟩
end Ins165
end Go.Proofs.Ytkglpfdoefdhdaa.WK

