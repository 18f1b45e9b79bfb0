import Derived.KernelRfl
import Derived.Shelf.SlGeneric
import Derived.Ground.SlgnProg
import Derived.Ground.SlgmProg
import Derived.Test.YtkglpfdoefdhdaaZFnExactAddHole5
namespace Go.Proofs.Ytkglpfdoefdhdaa.Q
open Go.RowKit Go.Proofs.YtkglpfdoefdhdaaW.PrintWords Go.Proofs.YtkglpfdoefdhdaaW.PrintLast Go.Proofs.YtkglpfdoefdhdaaW.PrintMore
attribute [local go_sem] max2_int min2_int max_two min_two max_three min_three max_four min_four
set_option linter.unusedVariables false
set_option linter.unusedSimpArgs false

/-! ### impl_AreHoles: function 63 -/
abbrev D0_63 : Array Bool := #[false, false, false, false, false, false, false, false, false, false, false, false, false, false, false, false, false, false, false, false]
abbrev D1_63 : Array Bool := #[true, false, false, false, false, false, false, false, false, false, false, false, false, false, false, false, false, false, false, false]
abbrev D2_63 : Array Bool := #[true, true, false, false, false, false, false, false, false, false, false, false, false, false, false, false, false, false, false, false]
abbrev D3_63 : Array Bool := #[true, true, true, false, false, false, false, false, false, false, false, false, false, false, false, false, false, false, false, false]
abbrev D4_63 : Array Bool := #[true, true, true, true, false, false, false, false, false, false, false, false, false, false, false, false, false, false, false, false]
abbrev D5_63 : Array Bool := #[true, true, true, true, true, false, false, false, false, false, false, false, false, false, false, false, false, false, false, false]
abbrev D6_63 : Array Bool := #[true, true, true, true, true, true, false, false, false, false, false, false, false, false, false, false, false, false, false, false]
abbrev D7_63 : Array Bool := #[true, true, true, true, true, true, true, false, false, false, false, false, false, false, false, false, false, false, false, false]
abbrev D8_63 : Array Bool := #[true, true, true, true, true, true, true, true, false, false, false, false, false, false, false, false, false, false, false, false]
abbrev D9_63 : Array Bool := #[true, true, true, true, true, true, true, true, true, false, false, false, false, false, false, false, false, false, false, false]
abbrev D10_63 : Array Bool := #[true, true, true, true, true, true, true, true, true, true, false, false, false, false, false, false, false, false, false, false]
abbrev D11_63 : Array Bool := #[true, true, true, true, true, true, true, true, true, true, true, false, false, false, false, false, false, false, false, false]
abbrev D12_63 : Array Bool := #[true, true, true, true, true, true, true, true, true, true, true, true, false, false, false, false, false, false, false, false]
abbrev D13_63 : Array Bool := #[true, true, true, true, true, true, true, true, true, true, true, true, true, false, false, false, false, false, false, false]
abbrev D14_63 : Array Bool := #[true, true, true, true, true, true, true, true, true, true, true, true, true, true, false, false, false, false, false, false]
abbrev D15_63 : Array Bool := #[true, true, true, true, true, true, true, true, true, true, true, true, true, true, true, false, false, false, false, false]
abbrev D16_63 : Array Bool := #[true, true, true, true, true, true, true, true, true, true, true, true, true, true, true, true, false, false, false, false]
abbrev D17_63 : Array Bool := #[true, true, true, true, true, true, true, true, true, true, true, true, true, true, true, true, true, false, false, false]
abbrev D18_63 : Array Bool := #[true, true, true, true, true, true, true, true, true, true, true, true, true, true, true, true, true, true, false, false]
abbrev D19_63 : Array Bool := #[true, true, true, true, true, true, true, true, true, true, true, true, true, true, true, true, true, true, true, false]
abbrev D20_63 : Array Bool := #[true, true, true, true, true, true, true, true, true, true, true, true, true, true, true, true, true, true, true, true]
mutual
def impl_AreHoles.j0 : Nat → List (S76) → Bool → Option (Bool)
 | 0, _, _ => none
 | k + 1, x1, x21 => if x21 = true then (some false) else (impl_AreHoles.l0 k x1 x1 (x1.length : Int) 0)
def impl_AreHoles.l0 : Nat → List (S76) → List (S76) → Int → Int → Option (Bool)
 | 0, _, _, _, _ => none
 | k + 1, x1, x22, x23, x24 => if x24 < x23 then (if 0 ≤ x24 then (if x24 < (x22.length : Int) then (if x24 > 0 then (if 0 ≤ (wrap64 (x24 - 1)) then (if (wrap64 (x24 - 1)) < (x1.length : Int) then ((impl_Hole_compare.f k ((rd_T76 x1 (wrap64 (x24 - 1))).f0) ((rd_T76 x1 (wrap64 (x24 - 1))).f1) ((rd_T76 x1 (wrap64 (x24 - 1))).f2) ((rd_T76 x1 (wrap64 (x24 - 1))).f3) ((rd_T76 x22 x24).f0) ((rd_T76 x22 x24).f1) ((rd_T76 x22 x24).f2) ((rd_T76 x22 x24).f3)).bind fun t219 => (if t219 ≥ 0 then (some false) else (if x24 ≤ (x1.length : Int) then ((impl_Hole_131__impl_Hole_meets.f (x1.take (x24 : Int).toNat) ((rd_T76 x22 x24).f0) ((rd_T76 x22 x24).f1) ((rd_T76 x22 x24).f2) ((rd_T76 x22 x24).f3)).bind fun t224 => (if t224 = true then (some false) else (impl_AreHoles.l0 k x1 x22 x23 (wrap64 (x24 + 1))))) else (none)))) else (none)) else (none)) else (if x24 ≤ (x1.length : Int) then ((impl_Hole_131__impl_Hole_meets.f (x1.take (x24 : Int).toNat) ((rd_T76 x22 x24).f0) ((rd_T76 x22 x24).f1) ((rd_T76 x22 x24).f2) ((rd_T76 x22 x24).f3)).bind fun t229 => (if t229 = true then (some false) else (impl_AreHoles.l0 k x1 x22 x23 (wrap64 (x24 + 1))))) else (none))) else (none)) else (none)) else (some true)
end
def impl_AreHoles.f (k : Nat) (a0_0 : Int) (a0_1 : Int) (l0_2 : List Int) (l1 : List (S76)) : Option (Bool) := (impl_IsChart.f a0_0 a0_1 l0_2).bind fun t214 => (if t214 = true then (if (l1.length : Int) > 8 then (impl_AreHoles.j0 k l1 true) else ((impl_Hole_129__impl_Chart_isHole.f l1 a0_0 a0_1 l0_2).bind fun t215 => (impl_AreHoles.j0 k l1 (!t215)))) else (impl_AreHoles.j0 k l1 true))
def impl_AreHoles.T6 : Bool × List (List Nat × List Nat) := (true, [([], []), ([0], [0]), ([1], [1]), ([2], [2]), ([2], [2]), ([4, 2], [2, 4]), ([3, 5, 2], [2, 3, 5]), ([6, 2], [2, 6]), ([2], [2]), ([7, 8, 2, 2], [2, 7, 8]), ([9, 2], [2, 9]), ([2, 10], [2, 10]), ([11, 9], [11]), ([12], [12]), ([12], [12]), ([13, 14, 12], [12, 13, 14]), ([12], [12]), ([16, 12], [12, 16]), ([15, 17, 12, 12], [12, 15, 17]), ([12, 18], [12, 18])])
def impl_AreHoles.B6 : List Nat := [0, 1, 3, 7, 7, 23, 63, 127, 7, 511, 1023, 2047, 4095, 8191, 8191, 32767, 8191, 73727, 262143, 524287]
theorem impl_AreHoles.tab6 : rtab .any (opsOf Try.f63 6) = impl_AreHoles.T6 := by kernel_rfl
theorem impl_AreHoles.bits6 : waitsOk impl_AreHoles.T6.2 impl_AreHoles.B6 = true := by kernel_rfl
set_option maxHeartbeats 8000000 in
set_option maxRecDepth 100000 in
theorem impl_AreHoles.calls (k : Nat) (a0_0 : Int) (a0_1 : Int) (A0_2 : Option Addr) (c0_2 : Nat) (l0_2 : List Int) (A1 : Option Addr) (c1 : Nat) (l1 : List (S76)) (r : Bool) (w : World) (hr0_2 : Kd.C (Kd.int .i64) w A0_2 l0_2.length l0_2) (hc0_2 : l0_2.length ≤ c0_2) (hr1 : Kd.C k76 w A1 l1.length l1) (hc1 : l1.length ≤ c1) (h : impl_AreHoles.f k a0_0 a0_1 l0_2 l1 = some r) :
  Calls Try.prog 63 #[.agg #[.int .i64 a0_0, .int .i64 a0_1, .slice A0_2 l0_2.length c0_2], .slice A1 l1.length c1] w fun e w' => e = .returned (.bool r) ∧ Below w.heap.size w w' := by
 have hu26 := Try.underlying26
 have hu76 := Try.underlying76
 have HR0_2 := Aside0.mk hr0_2
 have HC0_2 := Aside0.mk hc0_2
 clear hr0_2 hc0_2
 have HR1 := Aside0.mk hr1
 have HC1 := Aside0.mk hc1
 clear hr1 hc1
 have HB := Aside0.mk (Below.refl w.heap.size w)
 have H : ((impl_IsChart.f a0_0 a0_1 l0_2).bind fun t214 => (if t214 = true then (if (l1.length : Int) > 8 then (impl_AreHoles.j0 k l1 true) else ((impl_Hole_129__impl_Chart_isHole.f l1 a0_0 a0_1 l0_2).bind fun t215 => (impl_AreHoles.j0 k l1 (!t215)))) else (impl_AreHoles.j0 k l1 true))) = some r := h
 clear h
 have HC3 := Aside0.mk H
 clear H
 go_enter Try.func63, Try.ntmps63
 go_upto_region 1 with (first | ((with_reducible refine gate_dst (N := 2) rfl ?_); (try (refine gate_guard (by rfl) ?_; dsimp only)); refine box_event ?hg (N := 2) ?hd (cs := #[.int .i64 a0_0, .int .i64 a0_1, .slice A0_2 l0_2.length c0_2]) (t := 26) ?hr ?_; (case hd => rfl); (case hg => rfl); (case hr => first | (go_simp; done) | (go_simp; rfl)); intro gb213 hg w4 hbox hb; have n0_ := Aside0.mk (below_step (by repeat (first | (with_reducible first | exact HB.out | apply below_alloc | apply pw_below_drewN | apply below_drew1) | exact HB.out)) hb); have n1_ := Aside0.mk (hbox); have n2_ := Aside0.mk ((by rw [hg]; exact (below_size (by repeat (first | (with_reducible first | exact HB.out | apply below_alloc | apply pw_below_drewN | apply below_drew1) | exact HB.out))) : w.heap.size ≤ gb213)); have n3_ := Aside0.mk ((by rw [hg]; exact (below_size (by repeat (first | (with_reducible first | exact HB.out | apply below_alloc | apply pw_below_drewN | apply below_drew1) | exact HB.out))) : w.heap.size ≤ gb213)); clear HB; have HB := n0_; have BK213 := n1_; have GW213 := n2_; have GE213 := n3_; clear n0_ n1_ n2_ n3_; clear hb hbox hg))
 (try simp only [Act.put, List.setIfInBounds_toArray, List.set_cons_zero, List.set_cons_succ])
 go_cut [21] (fun v21 wc => ∃ (kq : Nat) (x21_2 : Bool), v21 = .bool x21_2 ∧ Aside0 (impl_AreHoles.j0 kq l1 x21_2 = some r) ∧ Aside0 (kq ≤ k) ∧ Aside0 (wc.heap[gb213]? = some (.cells #[.int .i64 a0_0, .int .i64 a0_1, (.slice A0_2 l0_2.length c0_2)] 26 (0, 0))) ∧ Aside0 (Below w.heap.size w wc))
 case first =>
  have H := HC3.out
  clear HC3
  replace H := Option.bind_eq_some_iff.mp H
  obtain ⟨t214, A50, H⟩ := H
  have A5 := Aside0.mk A50
  clear A50
  by_cases c6 : t214 = true
  ·subst c6
   rw [if_pos rfl] at H
   by_cases c7 : (l1.length : Int) > 8
   ·rw [if_pos c7] at H
    have c7b0 : decide (8 < (l1.length : Int)) = true := decide_eq_true c7
    have c7b1 : decide (8 < l1.length) = true := decide_eq_true (by omega)
    clear c7
    (first | rw [c7b0] | (simp only [i64_w, i32_w]; rw [c7b0]) | skip)
    have H' := Aside0.mk H
    clear H
    have hcz8_0 : w4.cell? ⟨gb213, 0, none⟩ = some (.int .i64 a0_0) := (blk_cell BK213.out 0).trans rfl
    have hcz8_1 : w4.cell? ⟨gb213, 1, none⟩ = some (.int .i64 a0_1) := (blk_cell BK213.out 1).trans rfl
    have hcz8_2 : w4.cell? ⟨gb213, 2, none⟩ = some (.slice A0_2 l0_2.length c0_2) := (blk_cell BK213.out 2).trans rfl
    have hfz8_0 := blk_frozen BK213.out 0
    have hfz8_1 := blk_frozen BK213.out 1
    have hfz8_2 := blk_frozen BK213.out 2
    go_wp2_with (first | ((with_reducible refine gate_callee (f := 104) rfl ?_); refine goesL_ (some 8) rfl rfl Try.func104 (by kernel_rfl) rfl #[.agg #[.int .i64 a0_0, .int .i64 a0_1, .slice A0_2 l0_2.length c0_2]] rfl (by (try simp only [List.map_toArray, List.map_cons, List.map_nil]); first | done | rfl | (simp only [List.length_drop, List.length_take]; rfl)) ?_; (with_reducible refine (impl_IsChart.calls a0_0 a0_1 _ _ l0_2 true _ ?side1 ?side2 A5.out).mono ?_); (case side1 => repeat (first | exact (Kd.C_below HR0_2.out HB.out) | (with_reducible refine Kd.C_alloc ?_ _) | (with_reducible refine Kd.C_drewN ?_ _) | (with_reducible refine Kd.C_drew ?_))); (case side2 => exact HC0_2.out); rintro e w9 ⟨rfl, hb⟩; refine ⟨_, rfl, ?_⟩; have n0_ := Aside0.mk (blk_below (g := gb213) (o := .cells #[.int .i64 a0_0, .int .i64 a0_1, .slice A0_2 l0_2.length c0_2] 26 (0, 0)) (by (with_reducible repeat (first | refine blk_drewN ?_ _ | refine blk_drew ?_ | refine blk_alloc ?_ _)); exact BK213.out) hb); have n1_ := Aside0.mk (below_step (by repeat (first | (with_reducible first | exact HB.out | apply below_alloc | apply pw_below_drewN | apply below_drew1 | refine below_set ?_ GE213.out) | exact HB.out)) hb); clear BK213; clear HB; have BK213 := n0_; have HB := n1_; clear n0_ n1_; (try clear hb); (try clear hb2); (try clear hk); (try clear hi)))
    go_meet
    case rel => exact ⟨_, (true), (by first | rfl | (simp; done) | (simp [*]; done)), H', ⟨by first | omega | exact Nat.le_refl _⟩, ⟨by (with_reducible repeat (first | refine blk_drewN ?_ _ | refine blk_drew ?_ | refine blk_alloc ?_ _)); exact BK213.out⟩, ⟨by repeat (first | (with_reducible first | exact HB.out | apply below_alloc | apply pw_below_drewN | apply below_drew1 | refine below_set ?_ GE213.out) | exact HB.out)⟩⟩
   ·rw [if_neg c7] at H
    have c7b0 : decide (8 < (l1.length : Int)) = false := decide_eq_false c7
    have c7b1 : decide (8 < l1.length) = false := decide_eq_false (by omega)
    clear c7
    (first | rw [c7b0] | (simp only [i64_w, i32_w]; rw [c7b0]) | skip)
    replace H := Option.bind_eq_some_iff.mp H
    obtain ⟨t215, A100, H⟩ := H
    have A10 := Aside0.mk A100
    clear A100
    have H' := Aside0.mk H
    clear H
    have hcz11_0 : w4.cell? ⟨gb213, 0, none⟩ = some (.int .i64 a0_0) := (blk_cell BK213.out 0).trans rfl
    have hcz11_1 : w4.cell? ⟨gb213, 1, none⟩ = some (.int .i64 a0_1) := (blk_cell BK213.out 1).trans rfl
    have hcz11_2 : w4.cell? ⟨gb213, 2, none⟩ = some (.slice A0_2 l0_2.length c0_2) := (blk_cell BK213.out 2).trans rfl
    have hfz11_0 := blk_frozen BK213.out 0
    have hfz11_1 := blk_frozen BK213.out 1
    have hfz11_2 := blk_frozen BK213.out 2
    go_wp2_with (first | ((with_reducible refine gate_callee (f := 104) rfl ?_); refine goesL_ (some 8) rfl rfl Try.func104 (by kernel_rfl) rfl #[.agg #[.int .i64 a0_0, .int .i64 a0_1, .slice A0_2 l0_2.length c0_2]] rfl (by (try simp only [List.map_toArray, List.map_cons, List.map_nil]); first | done | rfl | (simp only [List.length_drop, List.length_take]; rfl)) ?_; (with_reducible refine (impl_IsChart.calls a0_0 a0_1 _ _ l0_2 true _ ?side1 ?side2 A5.out).mono ?_); (case side1 => repeat (first | exact (Kd.C_below HR0_2.out HB.out) | (with_reducible refine Kd.C_alloc ?_ _) | (with_reducible refine Kd.C_drewN ?_ _) | (with_reducible refine Kd.C_drew ?_))); (case side2 => exact HC0_2.out); rintro e w12 ⟨rfl, hb⟩; refine ⟨_, rfl, ?_⟩; have n0_ := Aside0.mk (blk_below (g := gb213) (o := .cells #[.int .i64 a0_0, .int .i64 a0_1, .slice A0_2 l0_2.length c0_2] 26 (0, 0)) (by (with_reducible repeat (first | refine blk_drewN ?_ _ | refine blk_drew ?_ | refine blk_alloc ?_ _)); exact BK213.out) hb); have n1_ := Aside0.mk (below_step (by repeat (first | (with_reducible first | exact HB.out | apply below_alloc | apply pw_below_drewN | apply below_drew1 | refine below_set ?_ GE213.out) | exact HB.out)) hb); clear BK213; clear HB; have BK213 := n0_; have HB := n1_; clear n0_ n1_; (try clear hb); (try clear hb2); (try clear hk); (try clear hi); have hcz13_0 : w12.cell? ⟨gb213, 0, none⟩ = some (.int .i64 a0_0) := (blk_cell BK213.out 0).trans rfl; have hcz13_1 : w12.cell? ⟨gb213, 1, none⟩ = some (.int .i64 a0_1) := (blk_cell BK213.out 1).trans rfl; have hcz13_2 : w12.cell? ⟨gb213, 2, none⟩ = some (.slice A0_2 l0_2.length c0_2) := (blk_cell BK213.out 2).trans rfl; have hfz13_0 := blk_frozen BK213.out 0; have hfz13_1 := blk_frozen BK213.out 1; have hfz13_2 := blk_frozen BK213.out 2) | (go_at_call 129; (with_reducible refine (impl_Hole_129__impl_Chart_isHole.calls _ _ l1 a0_0 a0_1 _ _ l0_2 t215 _ ?side1 ?side2 ?side3 ?side4 A10.out).mono ?_); (case side1 => repeat (first | exact (Kd.C_below HR1.out HB.out) | (with_reducible refine Kd.C_alloc ?_ _) | (with_reducible refine Kd.C_drewN ?_ _) | (with_reducible refine Kd.C_drew ?_))); (case side2 => exact HC1.out); (case side3 => repeat (first | exact (Kd.C_below HR0_2.out HB.out) | (with_reducible refine Kd.C_alloc ?_ _) | (with_reducible refine Kd.C_drewN ?_ _) | (with_reducible refine Kd.C_drew ?_))); (case side4 => exact HC0_2.out); rintro e w14 ⟨rfl, hb⟩; have n0_ := Aside0.mk (blk_below (g := gb213) (o := .cells #[.int .i64 a0_0, .int .i64 a0_1, .slice A0_2 l0_2.length c0_2] 26 (0, 0)) (by (with_reducible repeat (first | refine blk_drewN ?_ _ | refine blk_drew ?_ | refine blk_alloc ?_ _)); exact BK213.out) hb); have n1_ := Aside0.mk (below_step (by repeat (first | (with_reducible first | exact HB.out | apply below_alloc | apply pw_below_drewN | apply below_drew1 | refine below_set ?_ GE213.out) | exact HB.out)) hb); clear BK213; clear HB; have BK213 := n0_; have HB := n1_; clear n0_ n1_; (try clear hb); (try clear hb2); (try clear hk); (try clear hi)))
    go_meet
    case rel => exact ⟨_, (!t215), (by first | rfl | (simp; done) | (simp [*]; done)), H', ⟨by first | omega | exact Nat.le_refl _⟩, ⟨by (with_reducible repeat (first | refine blk_drewN ?_ _ | refine blk_drew ?_ | refine blk_alloc ?_ _)); exact BK213.out⟩, ⟨by repeat (first | (with_reducible first | exact HB.out | apply below_alloc | apply pw_below_drewN | apply below_drew1 | refine below_set ?_ GE213.out) | exact HB.out)⟩⟩
  ·replace c6 := Bool.eq_false_iff.mpr c6
   subst c6
   rw [if_neg (show ¬ (false = true) by decide)] at H
   have H' := Aside0.mk H
   clear H
   have hcz15_0 : w4.cell? ⟨gb213, 0, none⟩ = some (.int .i64 a0_0) := (blk_cell BK213.out 0).trans rfl
   have hcz15_1 : w4.cell? ⟨gb213, 1, none⟩ = some (.int .i64 a0_1) := (blk_cell BK213.out 1).trans rfl
   have hcz15_2 : w4.cell? ⟨gb213, 2, none⟩ = some (.slice A0_2 l0_2.length c0_2) := (blk_cell BK213.out 2).trans rfl
   have hfz15_0 := blk_frozen BK213.out 0
   have hfz15_1 := blk_frozen BK213.out 1
   have hfz15_2 := blk_frozen BK213.out 2
   go_wp2_with (first | ((with_reducible refine gate_callee (f := 104) rfl ?_); refine goesL_ (some 8) rfl rfl Try.func104 (by kernel_rfl) rfl #[.agg #[.int .i64 a0_0, .int .i64 a0_1, .slice A0_2 l0_2.length c0_2]] rfl (by (try simp only [List.map_toArray, List.map_cons, List.map_nil]); first | done | rfl | (simp only [List.length_drop, List.length_take]; rfl)) ?_; (with_reducible refine (impl_IsChart.calls a0_0 a0_1 _ _ l0_2 false _ ?side1 ?side2 A5.out).mono ?_); (case side1 => repeat (first | exact (Kd.C_below HR0_2.out HB.out) | (with_reducible refine Kd.C_alloc ?_ _) | (with_reducible refine Kd.C_drewN ?_ _) | (with_reducible refine Kd.C_drew ?_))); (case side2 => exact HC0_2.out); rintro e w16 ⟨rfl, hb⟩; refine ⟨_, rfl, ?_⟩; have n0_ := Aside0.mk (blk_below (g := gb213) (o := .cells #[.int .i64 a0_0, .int .i64 a0_1, .slice A0_2 l0_2.length c0_2] 26 (0, 0)) (by (with_reducible repeat (first | refine blk_drewN ?_ _ | refine blk_drew ?_ | refine blk_alloc ?_ _)); exact BK213.out) hb); have n1_ := Aside0.mk (below_step (by repeat (first | (with_reducible first | exact HB.out | apply below_alloc | apply pw_below_drewN | apply below_drew1 | refine below_set ?_ GE213.out) | exact HB.out)) hb); clear BK213; clear HB; have BK213 := n0_; have HB := n1_; clear n0_ n1_; (try clear hb); (try clear hb2); (try clear hk); (try clear hi)))
   go_meet
   case rel => exact ⟨_, (true), (by first | rfl | (simp; done) | (simp [*]; done)), H', ⟨by first | omega | exact Nat.le_refl _⟩, ⟨by (with_reducible repeat (first | refine blk_drewN ?_ _ | refine blk_drew ?_ | refine blk_alloc ?_ _)); exact BK213.out⟩, ⟨by repeat (first | (with_reducible first | exact HB.out | apply below_alloc | apply pw_below_drewN | apply below_drew1 | refine below_set ?_ GE213.out) | exact HB.out)⟩⟩
 case rest =>
  clear HC3
  try clear c1
  try clear p2
  try clear c6
  try clear c7
  try clear c7b0
  try clear c7b1
  try clear c10
  try clear hcz11_0
  try clear hcz11_1
  try clear hcz11_2
  try clear hcz13_0
  try clear hcz13_1
  try clear hcz13_2
  try clear hcz15_0
  try clear hcz15_1
  try clear hcz15_2
  try clear hcz8_0
  try clear hcz8_1
  try clear hcz8_2
  try clear hfz11_0
  try clear hfz11_1
  try clear hfz11_2
  try clear hfz13_0
  try clear hfz13_1
  try clear hfz13_2
  try clear hfz15_0
  try clear hfz15_1
  try clear hfz15_2
  try clear hfz8_0
  try clear hfz8_1
  try clear hfz8_2
  obtain ⟨kq, x21_2, rfl, HA, HJ2, BK213, HB⟩ := hcut
  cases kq with
  | zero => exact absurd HA.out (by simp [impl_AreHoles.j0])
  | succ kj2 =>
   have H := HA.out
   clear HA
   simp only [impl_AreHoles.j0] at H
   by_cases c17 : x21_2 = true
   ·subst c17
    rw [if_pos rfl] at H
    obtain rfl := Option.some.inj H
    go_wp2
    go_ret
    exact ⟨by first | rfl | (simp [errW_none, errW_some] <;> rfl) | (simp [*, errW_none, errW_some] <;> rfl) | (simp [wrap64]; done), by repeat (first | (with_reducible first | exact HB.out | apply below_alloc | apply pw_below_drewN | apply below_drew1 | refine below_set ?_ GE213.out) | exact HB.out)⟩
   ·replace c17 := Bool.eq_false_iff.mpr c17
    subst c17
    rw [if_neg (show ¬ (false = true) by decide)] at H
    have H' := Aside0.mk H
    clear H
    go_wp2
    go_loopg [24] kj2 (fun kq v24 w' => ∃ (x24_2 : Int), v24 = .int .i64 x24_2 ∧ Aside0 (impl_AreHoles.l0 kq l1 l1 (l1.length : Int) x24_2 = some r) ∧ Aside0 (kq ≤ kj2) ∧ Aside0 (w'.heap[gb213]? = some (.cells #[.int .i64 a0_0, .int .i64 a0_1, (.slice A0_2 l0_2.length c0_2)] 26 (0, 0))) ∧ Aside0 (Below w.heap.size w w'))
    case atStart => exact ⟨(0), (by first | rfl | (simp; done) | (simp [*]; done)), H', ⟨Nat.le_refl _⟩, ⟨by (with_reducible repeat (first | refine blk_drewN ?_ _ | refine blk_drew ?_ | refine blk_alloc ?_ _)); exact BK213.out⟩, ⟨by repeat (first | (with_reducible first | exact HB.out | apply below_alloc | apply pw_below_drewN | apply below_drew1 | refine below_set ?_ GE213.out) | exact HB.out)⟩⟩
    case round =>
     clear H'
     try clear c1
     try clear p2
     try clear c6
     try clear p6
     try clear c7
     try clear c7b0
     try clear c7b1
     try clear c10
     try clear c17
     try clear hcz11_0
     try clear hcz11_1
     try clear hcz11_2
     try clear hcz13_0
     try clear hcz13_1
     try clear hcz13_2
     try clear hcz15_0
     try clear hcz15_1
     try clear hcz15_2
     try clear hcz8_0
     try clear hcz8_1
     try clear hcz8_2
     try clear hfz11_0
     try clear hfz11_1
     try clear hfz11_2
     try clear hfz13_0
     try clear hfz13_1
     try clear hfz13_2
     try clear hfz15_0
     try clear hfz15_1
     try clear hfz15_2
     try clear hfz8_0
     try clear hfz8_1
     try clear hfz8_2
     try clear p2
     obtain ⟨x24_2, rfl, HA, HK2, BK213, HB⟩ := hrel
     cases gk with
     | zero => exact absurd HA.out (by simp [impl_AreHoles.l0])
     | succ k2 =>
      have H := HA.out
      clear HA
      simp only [impl_AreHoles.l0] at H
      by_cases c18 : x24_2 < (l1.length : Int)
      ·rw [if_pos c18] at H
       have c18b0 : decide (x24_2 < (l1.length : Int)) = true := decide_eq_true c18
       clear c18
       by_cases c19 : 0 ≤ x24_2
       ·rw [if_pos c19] at H
        have c19b0 : decide (0 ≤ x24_2) = true := decide_eq_true c19
        clear c19
        by_cases c20 : x24_2 < (l1.length : Int)
        ·rw [if_pos c20] at H
         have c20b0 : decide (x24_2 < (l1.length : Int)) = true := decide_eq_true c20
         clear c20
         by_cases c21 : x24_2 > 0
         ·rw [if_pos c21] at H
          have c21b0 : decide (0 < x24_2) = true := decide_eq_true c21
          clear c21
          obtain ⟨ji22, hji22⟩ : ∃ j_ : Int, (wrap64 (x24_2 - 1)) = j_ := ⟨_, rfl⟩
          replace H : (if 0 ≤ (ji22) then (if (ji22) < (l1.length : Int) then ((impl_Hole_compare.f k2 ((rd_T76 l1 (ji22)).f0) ((rd_T76 l1 (ji22)).f1) ((rd_T76 l1 (ji22)).f2) ((rd_T76 l1 (ji22)).f3) ((rd_T76 l1 x24_2).f0) ((rd_T76 l1 x24_2).f1) ((rd_T76 l1 x24_2).f2) ((rd_T76 l1 x24_2).f3)).bind fun t219 => (if t219 ≥ 0 then (some false) else (if x24_2 ≤ (l1.length : Int) then ((impl_Hole_131__impl_Hole_meets.f (l1.take (x24_2 : Int).toNat) ((rd_T76 l1 x24_2).f0) ((rd_T76 l1 x24_2).f1) ((rd_T76 l1 x24_2).f2) ((rd_T76 l1 x24_2).f3)).bind fun t224 => (if t224 = true then (some false) else (impl_AreHoles.l0 k2 l1 l1 (l1.length : Int) (wrap64 (x24_2 + 1))))) else (none)))) else (none)) else (none)) = some r := by first | (rw [hji22] at H; exact H) | (simp only [hji22] at H ⊢; exact H)
          have hji22w : (IntKind.i64.wrap (x24_2 - 1)) = ji22 := (i64_w _).trans hji22
          by_cases c23 : 0 ≤ (ji22)
          ·rw [if_pos c23] at H
           have c23b0 : decide (0 ≤ (ji22)) = true := decide_eq_true c23
           clear c23
           by_cases c24 : (ji22) < (l1.length : Int)
           ·rw [if_pos c24] at H
            have c24b0 : decide ((ji22) < (l1.length : Int)) = true := decide_eq_true c24
            clear c24
            replace H := Option.bind_eq_some_iff.mp H
            obtain ⟨t219, A250, H⟩ := H
            have A25 := Aside0.mk A250
            clear A250
            by_cases c26 : t219 ≥ 0
            ·rw [if_pos c26] at H
             have c26b0 : decide (0 ≤ t219) = true := decide_eq_true c26
             clear c26
             obtain rfl := Option.some.inj H
             have p216 : 0 ≤ (x24_2 : Int) := of_decide_eq_true (by first | (with_reducible assumption) | assumption)
             have q216 : x24_2 < (l1.length : Int) := of_decide_eq_true (by first | (with_reducible assumption) | assumption)
             obtain ⟨ad216, e216, hx216_0, hx216_1, hx216_2, hx216_3⟩ := at_T76 HR1.out x24_2 p216 q216
             cases e216
             replace hx216_0 := (HB.out.cell (World.block_lt_of_cell? w _ hx216_0)).trans hx216_0
             replace hx216_1 := (HB.out.cell (World.block_lt_of_cell? w _ hx216_1)).trans hx216_1
             replace hx216_2 := (HB.out.cell (World.block_lt_of_cell? w _ hx216_2)).trans hx216_2
             replace hx216_3 := (HB.out.cell (World.block_lt_of_cell? w _ hx216_3)).trans hx216_3
             replace p216 := eq_true p216
             replace q216 := eq_true q216
             try go_wp2_with (first | ((with_reducible refine gate_dst (N := 6) rfl ?_); (try (refine gate_guard (by rfl) ?_; dsimp only)); refine box_event ?hg (N := 6) ?hd (cs := #[.int .i64 0, .int .i64 0, .int .i64 0, .int .i64 0]) (t := 76) ?hr ?_; (case hd => rfl); (case hg => rfl); (case hr => first | (go_simp; done) | (go_simp; rfl)); intro gb217 hg w27 hbox hb; have n0_ := Aside0.mk (blk_below (g := gb213) (o := .cells #[.int .i64 a0_0, .int .i64 a0_1, .slice A0_2 l0_2.length c0_2] 26 (0, 0)) (by (with_reducible repeat (first | refine blk_drewN ?_ _ | refine blk_drew ?_ | refine blk_alloc ?_ _)); exact BK213.out) hb); have n1_ := Aside0.mk (below_step (by repeat (first | (with_reducible first | exact HB.out | apply below_alloc | apply pw_below_drewN | apply below_drew1 | refine below_set ?_ GE213.out) | exact HB.out)) hb); have n2_ := Aside0.mk (hbox); have n3_ := Aside0.mk ((by rw [hg]; exact (below_size (by repeat (first | (with_reducible first | exact HB.out | apply below_alloc | apply pw_below_drewN | apply below_drew1 | refine below_set ?_ GE213.out) | exact HB.out))) : w.heap.size ≤ gb217)); have n4_ := Aside0.mk ((by rw [hg]; exact (below_size (by repeat (first | (with_reducible first | exact HB.out | apply below_alloc | apply pw_below_drewN | apply below_drew1 | refine below_set ?_ GE213.out) | exact HB.out))) : w.heap.size ≤ gb217)); have n5_ := Aside0.mk ((by rw [hg]; exact Nat.ne_of_lt (blk_lt (g := gb213) (o := .cells #[.int .i64 a0_0, .int .i64 a0_1, .slice A0_2 l0_2.length c0_2] 26 (0, 0)) (by (with_reducible repeat (first | refine blk_drewN ?_ _ | refine blk_drew ?_ | refine blk_alloc ?_ _)); exact BK213.out)) : gb213 ≠ gb217)); have n6_ := Aside0.mk ((by rw [hg]; exact Nat.ne_of_gt (blk_lt (g := gb213) (o := .cells #[.int .i64 a0_0, .int .i64 a0_1, .slice A0_2 l0_2.length c0_2] 26 (0, 0)) (by (with_reducible repeat (first | refine blk_drewN ?_ _ | refine blk_drew ?_ | refine blk_alloc ?_ _)); exact BK213.out)) : gb217 ≠ gb213)); clear BK213; clear HB; have BK213 := n0_; have HB := n1_; have BK217 := n2_; have GW217 := n3_; have GE217 := n4_; have NB213_217 := n5_; have NB217_213 := n6_; clear n0_ n1_ n2_ n3_ n4_ n5_ n6_; clear hb hbox hg; have hnb28 := NB217_213.out; have hnc28 := NB213_217.out; have hcz29_0 : w27.cell? ⟨gb217, 0, none⟩ = some (.int .i64 0) := (blk_cell BK217.out 0).trans rfl; have hcz29_1 : w27.cell? ⟨gb217, 1, none⟩ = some (.int .i64 0) := (blk_cell BK217.out 1).trans rfl; have hcz29_2 : w27.cell? ⟨gb217, 2, none⟩ = some (.int .i64 0) := (blk_cell BK217.out 2).trans rfl; have hcz29_3 : w27.cell? ⟨gb217, 3, none⟩ = some (.int .i64 0) := (blk_cell BK217.out 3).trans rfl; have hfz29_0 := blk_frozen BK217.out 0; have hfz29_1 := blk_frozen BK217.out 1; have hfz29_2 := blk_frozen BK217.out 2; have hfz29_3 := blk_frozen BK217.out 3))
             have n0_ : Aside0 (((((w27.setCell ⟨gb217, 0, none⟩ (.int .i64 ((rd_T76 l1 x24_2).f0))).setCell ⟨gb217, 1, none⟩ (.int .i64 ((rd_T76 l1 x24_2).f1))).setCell ⟨gb217, 2, none⟩ (.int .i64 ((rd_T76 l1 x24_2).f2))).setCell ⟨gb217, 3, none⟩ (.int .i64 ((rd_T76 l1 x24_2).f3))).heap[gb213]? = some (.cells #[.int .i64 a0_0, .int .i64 a0_1, .slice A0_2 l0_2.length c0_2] 26 (0, 0))) := ⟨by (with_reducible repeat (first | refine blk_drewN ?_ _ | refine blk_drew ?_ | refine blk_alloc ?_ _)); refine blk_far ?_ NB213_217.out _; (with_reducible repeat (first | refine blk_drewN ?_ _ | refine blk_drew ?_ | refine blk_alloc ?_ _)); refine blk_far ?_ NB213_217.out _; (with_reducible repeat (first | refine blk_drewN ?_ _ | refine blk_drew ?_ | refine blk_alloc ?_ _)); refine blk_far ?_ NB213_217.out _; (with_reducible repeat (first | refine blk_drewN ?_ _ | refine blk_drew ?_ | refine blk_alloc ?_ _)); refine blk_far ?_ NB213_217.out _; (with_reducible repeat (first | refine blk_drewN ?_ _ | refine blk_drew ?_ | refine blk_alloc ?_ _)); exact BK213.out⟩
             have n1_ : Aside0 (((((w27.setCell ⟨gb217, 0, none⟩ (.int .i64 ((rd_T76 l1 x24_2).f0))).setCell ⟨gb217, 1, none⟩ (.int .i64 ((rd_T76 l1 x24_2).f1))).setCell ⟨gb217, 2, none⟩ (.int .i64 ((rd_T76 l1 x24_2).f2))).setCell ⟨gb217, 3, none⟩ (.int .i64 ((rd_T76 l1 x24_2).f3))).heap[gb217]? = some (.cells #[.int .i64 ((rd_T76 l1 x24_2).f0), .int .i64 ((rd_T76 l1 x24_2).f1), .int .i64 ((rd_T76 l1 x24_2).f2), .int .i64 ((rd_T76 l1 x24_2).f3)] 76 (0, 0))) := ⟨by (with_reducible repeat (first | refine blk_drewN ?_ _ | refine blk_drew ?_ | refine blk_alloc ?_ _)); refine blk_put (cs := #[.int .i64 ((rd_T76 l1 x24_2).f0), .int .i64 ((rd_T76 l1 x24_2).f1), .int .i64 ((rd_T76 l1 x24_2).f2), .int .i64 0]) ?_ 3 _ rfl; (with_reducible repeat (first | refine blk_drewN ?_ _ | refine blk_drew ?_ | refine blk_alloc ?_ _)); refine blk_put (cs := #[.int .i64 ((rd_T76 l1 x24_2).f0), .int .i64 ((rd_T76 l1 x24_2).f1), .int .i64 0, .int .i64 0]) ?_ 2 _ rfl; (with_reducible repeat (first | refine blk_drewN ?_ _ | refine blk_drew ?_ | refine blk_alloc ?_ _)); refine blk_put (cs := #[.int .i64 ((rd_T76 l1 x24_2).f0), .int .i64 0, .int .i64 0, .int .i64 0]) ?_ 1 _ rfl; (with_reducible repeat (first | refine blk_drewN ?_ _ | refine blk_drew ?_ | refine blk_alloc ?_ _)); refine blk_put (cs := #[.int .i64 0, .int .i64 0, .int .i64 0, .int .i64 0]) ?_ 0 _ rfl; (with_reducible repeat (first | refine blk_drewN ?_ _ | refine blk_drew ?_ | refine blk_alloc ?_ _)); exact BK217.out⟩
             have n2_ : Aside0 (Below w.heap.size w ((((w27.setCell ⟨gb217, 0, none⟩ (.int .i64 ((rd_T76 l1 x24_2).f0))).setCell ⟨gb217, 1, none⟩ (.int .i64 ((rd_T76 l1 x24_2).f1))).setCell ⟨gb217, 2, none⟩ (.int .i64 ((rd_T76 l1 x24_2).f2))).setCell ⟨gb217, 3, none⟩ (.int .i64 ((rd_T76 l1 x24_2).f3)))) := ⟨by repeat (first | (with_reducible first | exact HB.out | apply below_alloc | apply pw_below_drewN | apply below_drew1 | refine below_set ?_ GE213.out | refine below_set ?_ GE217.out) | exact HB.out)⟩
             (try clear BK213)
             (try clear BK217)
             (try clear HB)
             generalize ((((w27.setCell ⟨gb217, 0, none⟩ (.int .i64 ((rd_T76 l1 x24_2).f0))).setCell ⟨gb217, 1, none⟩ (.int .i64 ((rd_T76 l1 x24_2).f1))).setCell ⟨gb217, 2, none⟩ (.int .i64 ((rd_T76 l1 x24_2).f2))).setCell ⟨gb217, 3, none⟩ (.int .i64 ((rd_T76 l1 x24_2).f3))) = w30 at n0_ n1_ n2_ ⊢
             have BK213 := n0_
             have BK217 := n1_
             have HB := n2_
             clear n0_ n1_ n2_
             have n0_ := Aside0.mk (blk_drew BK213.out)
             have n1_ := Aside0.mk (blk_drew BK217.out)
             have n2_ := Aside0.mk (below_drew1 HB.out)
             clear BK213
             clear BK217
             clear HB
             have BK213 := n0_
             have BK217 := n1_
             have HB := n2_
             clear n0_ n1_ n2_
             have p218 : 0 ≤ ((ji22) : Int) := of_decide_eq_true (by first | (with_reducible assumption) | assumption)
             have q218 : (ji22) < (l1.length : Int) := of_decide_eq_true (by first | (with_reducible assumption) | assumption)
             obtain ⟨ad218, e218, hx218_0, hx218_1, hx218_2, hx218_3⟩ := at_T76 HR1.out (ji22) p218 q218
             have hw218_3 := hx218_3
             have hw218_2 := hx218_2
             have hw218_1 := hx218_1
             have hw218_0 := hx218_0
             obtain rfl : ad216 = ad218 := (by injection e218)
             replace hx218_0 := (HB.out.cell (World.block_lt_of_cell? w _ hx218_0)).trans hx218_0
             replace hx218_1 := (HB.out.cell (World.block_lt_of_cell? w _ hx218_1)).trans hx218_1
             replace hx218_2 := (HB.out.cell (World.block_lt_of_cell? w _ hx218_2)).trans hx218_2
             replace hx218_3 := (HB.out.cell (World.block_lt_of_cell? w _ hx218_3)).trans hx218_3
             replace p218 := eq_true p218
             replace q218 := eq_true q218
             refine start_ (n := 20) (S := fun w' => w'.cell? ⟨gb217, 0, none⟩ = some (.int .i64 ((rd_T76 l1 x24_2).f0)) ∧ w'.cell? ⟨gb217, 1, none⟩ = some (.int .i64 ((rd_T76 l1 x24_2).f1)) ∧ w'.cell? ⟨gb217, 2, none⟩ = some (.int .i64 ((rd_T76 l1 x24_2).f2)) ∧ w'.cell? ⟨gb217, 3, none⟩ = some (.int .i64 ((rd_T76 l1 x24_2).f3)) ∧ w'.cell? (ad216.add (((ji22)).toNat * 4)) = some (.int .i64 ((rd_T76 l1 (ji22)).f0)) ∧ w'.cell? ⟨(ad216.add (((ji22)).toNat * 4)).block, (ad216.add (((ji22)).toNat * 4)).off + 1, none⟩ = some (.int .i64 ((rd_T76 l1 (ji22)).f1)) ∧ w'.cell? ⟨(ad216.add (((ji22)).toNat * 4)).block, (ad216.add (((ji22)).toNat * 4)).off + 2, none⟩ = some (.int .i64 ((rd_T76 l1 (ji22)).f2)) ∧ w'.cell? ⟨(ad216.add (((ji22)).toNat * 4)).block, (ad216.add (((ji22)).toNat * 4)).off + 3, none⟩ = some (.int .i64 ((rd_T76 l1 (ji22)).f3))) (ds := []) D0_63 (by kernel_rfl) rfl rfl ⟨(blk_cell BK217.out 0).trans rfl, (blk_cell BK217.out 1).trans rfl, (blk_cell BK217.out 2).trans rfl, (blk_cell BK217.out 3).trans rfl, ((HB.out.cell (World.block_lt_of_cell? w _ hw218_0)).trans hw218_0), ((HB.out.cell (World.block_lt_of_cell? w _ hw218_1)).trans hw218_1), ((HB.out.cell (World.block_lt_of_cell? w _ hw218_2)).trans hw218_2), ((HB.out.cell (World.block_lt_of_cell? w _ hw218_3)).trans hw218_3)⟩ (fun hHeld => ?_); refine with_tabW impl_AreHoles.tab6 impl_AreHoles.bits6 (fun HT_ HW_ => ?_)
             generalize w30.drew = w31 at BK213 BK217 HB hx218_0 hx218_1 hx218_2 hx218_3 hHeld ⊢
             refine pure_ (i := 0) (N := some 29) (v := ?_) (a' := ?_) D1_63 rfl rfl (any_of HT_.out (by kernel_rfl)) (fun _ _ _ h => h) (Or.inl ⟨by rfl, ?_⟩) ?_ ?_
             rotate_left
             ·intro w'
              go_simp
              with_reducible rfl
             rotate_left
             ·simp only [Act.put, sS_, sZ_, sC_, i64_w, i32_w]
              rfl
             refine pure_ (i := 1) (N := some 30) (v := ?_) (a' := ?_) D2_63 rfl rfl (any_of HT_.out (by kernel_rfl)) (fun _ _ _ h => h) (Or.inl ⟨by rfl, ?_⟩) ?_ ?_
             rotate_left
             ·intro w'
              go_simp
              with_reducible rfl
             rotate_left
             ·simp only [Act.put, sS_, sZ_, sC_, i64_w, i32_w]
              rfl
             refine pure_ (i := 2) (N := some 31) (v := ?_) (a' := ?_) D3_63 rfl rfl (any_of HT_.out (by kernel_rfl)) (fun _ _ _ h => h) (Or.inl ⟨by rfl, ?_⟩) ?_ ?_
             rotate_left
             ·intro w'
              go_simp
              with_reducible rfl
             rotate_left
             ·simp only [Act.put, sS_, sZ_, sC_, i64_w, i32_w]
              rfl
             refine pure_ (i := 3) (N := some 32) (v := ?_) (a' := ?_) D4_63 rfl rfl (any_of HT_.out (by kernel_rfl)) (fun _ _ _ h => h) (Or.inl ⟨by rfl, ?_⟩) ?_ ?_
             rotate_left
             ·intro w'
              go_simp
              with_reducible rfl
             rotate_left
             ·simp only [Act.put, sS_, sZ_, sC_, i64_w, i32_w]
              rfl
             refine pure_ (i := 4) (N := some 33) (v := ?_) (a' := ?_) D5_63 rfl rfl (any_of HT_.out (by kernel_rfl)) (fun _ _ _ h => h) (Or.inl ⟨by rfl, ?_⟩) ?_ ?_
             rotate_left
             ·intro w'
              go_simp
              with_reducible rfl
             rotate_left
             ·simp only [Act.put, sS_, sZ_, sC_, i64_w, i32_w]
              rfl
             refine pure_ (i := 5) (N := some 34) (v := ?_) (a' := ?_) D6_63 rfl rfl (any_of HT_.out (by kernel_rfl)) (fun _ _ _ h => h) (Or.inl ⟨by rfl, ?_⟩) ?_ ?_
             rotate_left
             ·intro w'
              go_simp
              with_reducible rfl
             rotate_left
             ·simp only [Act.put, sS_, sZ_, sC_, i64_w, i32_w]
              rfl
             refine pure_ (i := 6) (N := some 35) (v := ?_) (a' := ?_) D7_63 rfl rfl (any_of HT_.out (by kernel_rfl)) (fun _ _ _ h => h) (Or.inl ⟨by rfl, ?_⟩) ?_ ?_
             rotate_left
             ·intro w'
              go_simp
              with_reducible rfl
             rotate_left
             ·simp only [Act.put, sS_, sZ_, sC_, i64_w, i32_w]
              rfl
             refine take_ (i := 7) (N := some 36) (v := ?_) (a' := ?_) D8_63 rfl rfl (take_ofW HT_.out HW_.out (by kernel_rfl)) (fun _ _ _ h => h) (Or.inl ⟨by rfl, ?_⟩) hHeld ?_ ?_
             rotate_left
             ·rintro w' ⟨s0, s1, s2, s3, s4, s5, s6, s7⟩
              go_simp
              with_reducible rfl
             rotate_left
             ·simp only [Act.put, sS_, sZ_, sC_, i64_w, i32_w]
              rfl
             refine take_ (i := 8) (N := some 37) (v := ?_) (a' := ?_) D9_63 rfl rfl (take_ofW HT_.out HW_.out (by kernel_rfl)) (fun _ _ _ h => h) (Or.inl ⟨by rfl, ?_⟩) hHeld ?_ ?_
             rotate_left
             ·rintro w' ⟨s0, s1, s2, s3, s4, s5, s6, s7⟩
              go_simp
              with_reducible rfl
             rotate_left
             ·simp only [Act.put, sS_, sZ_, sC_, i64_w, i32_w]
              rfl
             refine one_ (i := 9) (N := some 38) D10_63 rfl rfl (one_of HT_.out (by kernel_rfl)) (by decide) (fun K hK => ?_)
             refine goes_ Try.func117 (by kernel_rfl) rfl #[.agg #[.int .i64 ((rd_T76 l1 (ji22)).f0), .int .i64 ((rd_T76 l1 (ji22)).f1), .int .i64 ((rd_T76 l1 (ji22)).f2), .int .i64 ((rd_T76 l1 (ji22)).f3)], .agg #[.int .i64 ((rd_T76 l1 x24_2).f0), .int .i64 ((rd_T76 l1 x24_2).f1), .int .i64 ((rd_T76 l1 x24_2).f2), .int .i64 ((rd_T76 l1 x24_2).f3)]] (by rfl) rfl rfl (by (try simp only [List.map_toArray, List.map_cons, List.map_nil]); first | done | (simp only [hji22]; rfl) | rfl | (simp only [List.length_drop, List.length_take]; rfl)) ?_
             with_reducible refine (impl_Hole_compare.calls k2 ((rd_T76 l1 (ji22)).f0) ((rd_T76 l1 (ji22)).f1) ((rd_T76 l1 (ji22)).f2) ((rd_T76 l1 (ji22)).f3) ((rd_T76 l1 x24_2).f0) ((rd_T76 l1 x24_2).f1) ((rd_T76 l1 x24_2).f2) ((rd_T76 l1 x24_2).f3) t219 _ A25.out).mono ?_
             rintro e w32 ⟨rfl, hb⟩
             refine ⟨_, rfl, ?_⟩
             have n0_ := Aside0.mk (blk_below (g := gb213) (o := .cells #[.int .i64 a0_0, .int .i64 a0_1, .slice A0_2 l0_2.length c0_2] 26 (0, 0)) (by (with_reducible repeat (first | refine blk_drewN ?_ _ | refine blk_drew ?_ | refine blk_alloc ?_ _)); exact BK213.out) hb)
             have n1_ := Aside0.mk (blk_below (g := gb217) (o := .cells #[.int .i64 ((rd_T76 l1 x24_2).f0), .int .i64 ((rd_T76 l1 x24_2).f1), .int .i64 ((rd_T76 l1 x24_2).f2), .int .i64 ((rd_T76 l1 x24_2).f3)] 76 (0, 0)) (by (with_reducible repeat (first | refine blk_drewN ?_ _ | refine blk_drew ?_ | refine blk_alloc ?_ _)); exact BK217.out) hb)
             have n2_ := Aside0.mk (below_step (by repeat (first | (with_reducible first | exact HB.out | apply below_alloc | apply pw_below_drewN | apply below_drew1 | refine below_set ?_ GE213.out | refine below_set ?_ GE217.out) | exact HB.out)) hb)
             clear BK213
             clear BK217
             clear HB
             have BK213 := n0_
             have BK217 := n1_
             have HB := n2_
             clear n0_ n1_ n2_
             (try clear hb)
             (try clear hb2)
             (try clear hk)
             (try clear hi)
             refine hK.out _ _ ⟨(blk_cell BK217.out 0).trans rfl, (blk_cell BK217.out 1).trans rfl, (blk_cell BK217.out 2).trans rfl, (blk_cell BK217.out 3).trans rfl, ((HB.out.cell (World.block_lt_of_cell? w _ hw218_0)).trans hw218_0), ((HB.out.cell (World.block_lt_of_cell? w _ hw218_1)).trans hw218_1), ((HB.out.cell (World.block_lt_of_cell? w _ hw218_2)).trans hw218_2), ((HB.out.cell (World.block_lt_of_cell? w _ hw218_3)).trans hw218_3)⟩ (fun hHeld => ?_)
             clear hK K
             refine norm_ (a' := ?_) ?_ ?_
             rotate_left
             ·show Act.put _ (some 38) _ = _
              simp only [Act.put, sS_, sZ_, sC_, i64_w, i32_w]
              rfl
             refine pure_ (i := 10) (N := some 39) (v := ?_) (a' := ?_) D11_63 rfl rfl (any_of HT_.out (by kernel_rfl)) (fun _ _ _ h => h) (Or.inl ⟨by rfl, ?_⟩) ?_ ?_
             rotate_left
             ·intro w'
              go_simp
              with_reducible rfl
             rotate_left
             ·simp only [Act.put, sS_, sZ_, sC_, i64_w, i32_w]
              rfl
             refine pure_ (i := 11) (N := some 40) (v := ?_) (a' := ?_) D12_63 rfl rfl (any_of HT_.out (by kernel_rfl)) (fun _ _ _ h => h) (Or.inl ⟨by rfl, ?_⟩) ?_ ?_
             rotate_left
             ·intro w'
              go_simp
              with_reducible rfl
             rotate_left
             ·simp only [Act.put, sS_, sZ_, sC_, i64_w, i32_w]
              rfl
             refine pure_ (i := 12) (N := some 41) (v := ?_) (a' := ?_) D13_63 rfl rfl (any_of HT_.out (by kernel_rfl)) (fun _ _ _ h => h) (Or.inl ⟨by rfl, ?_⟩) ?_ ?_
             rotate_left
             ·intro w'
              go_simp
              with_reducible rfl
             rotate_left
             ·simp only [Act.put, sS_, sZ_, sC_, i64_w, i32_w]
              rfl
             refine pure_ (i := 13) (N := some 42) (v := undef) (a' := ?_) D14_63 rfl rfl (any_of HT_.out (by kernel_rfl)) (fun _ _ _ h => h) (Or.inr ⟨by rfl, rfl⟩) ?_ ?_
             rotate_left
             ·simp only [Act.put, sS_, sZ_, sC_, i64_w, i32_w]
              rfl
             refine pure_ (i := 14) (N := some 43) (v := undef) (a' := ?_) D15_63 rfl rfl (any_of HT_.out (by kernel_rfl)) (fun _ _ _ h => h) (Or.inr ⟨by rfl, rfl⟩) ?_ ?_
             rotate_left
             ·simp only [Act.put, sS_, sZ_, sC_, i64_w, i32_w]
              rfl
             refine pure_ (i := 15) (N := some 44) (v := undef) (a' := ?_) D16_63 rfl rfl (any_of HT_.out (by kernel_rfl)) (fun _ _ _ h => h) (Or.inr ⟨by rfl, rfl⟩) ?_ ?_
             rotate_left
             ·simp only [Act.put, sS_, sZ_, sC_, i64_w, i32_w]
              rfl
             refine pure_ (i := 16) (N := some 45) (v := undef) (a' := ?_) D17_63 rfl rfl (any_of HT_.out (by kernel_rfl)) (fun _ _ _ h => h) (Or.inr ⟨by rfl, rfl⟩) ?_ ?_
             rotate_left
             ·simp only [Act.put, sS_, sZ_, sC_, i64_w, i32_w]
              rfl
             refine pure_ (i := 17) (N := some 46) (v := undef) (a' := ?_) D18_63 rfl rfl (any_of HT_.out (by kernel_rfl)) (fun _ _ _ h => h) (Or.inr ⟨by rfl, rfl⟩) ?_ ?_
             rotate_left
             ·simp only [Act.put, sS_, sZ_, sC_, i64_w, i32_w]
              rfl
             refine pure_ (i := 18) (N := some 47) (v := undef) (a' := ?_) D19_63 rfl rfl (any_of HT_.out (by kernel_rfl)) (fun _ _ _ h => h) (Or.inr ⟨by rfl, rfl⟩) ?_ ?_
             rotate_left
             ·simp only [Act.put, sS_, sZ_, sC_, i64_w, i32_w]
              rfl
             refine pure_ (i := 19) (N := some 48) (v := ?_) (a' := ?_) D20_63 rfl rfl (any_of HT_.out (by kernel_rfl)) (fun _ _ _ h => h) (Or.inl ⟨by rfl, ?_⟩) ?_ ?_
             rotate_left
             ·intro w'
              go_simp
              with_reducible rfl
             rotate_left
             ·simp only [Act.put, sS_, sZ_, sC_, i64_w, i32_w]
              rfl
             refine done_ (done_of HT_.out (by kernel_rfl)) ?_
             try go_wp2
             go_ret
             exact ⟨by first | rfl | (simp [errW_none, errW_some] <;> rfl) | (simp only [← hji22]; first | rfl | (simp [errW_none, errW_some] <;> rfl)) | (simp [*, errW_none, errW_some] <;> rfl) | (simp [wrap64]; done), by repeat (first | (with_reducible first | exact HB.out | apply below_alloc | apply pw_below_drewN | apply below_drew1 | refine below_set ?_ GE213.out | refine below_set ?_ GE217.out) | exact HB.out)⟩
            ·rw [if_neg c26] at H
             have c26b0 : decide (0 ≤ t219) = false := decide_eq_false c26
             clear c26
             have c33b0 := eq_true (of_decide_eq_true (by first | (with_reducible assumption) | assumption) : 0 ≤ x24_2)
             by_cases c34 : x24_2 ≤ (l1.length : Int)
             ·rw [if_pos c34] at H
              have c34b0 := eq_true c34
              have c34b1 : decide (x24_2 ≤ (l1.length : Int)) = true := decide_eq_true c34
              clear c34
              obtain ⟨y220, hy220⟩ : ∃ y_ : List (S76), y_ = (l1.take (x24_2 : Int).toNat) := ⟨_, rfl⟩
              replace H : ((impl_Hole_131__impl_Hole_meets.f y220 ((rd_T76 l1 x24_2).f0) ((rd_T76 l1 x24_2).f1) ((rd_T76 l1 x24_2).f2) ((rd_T76 l1 x24_2).f3)).bind fun t224 => (if t224 = true then (some false) else (impl_AreHoles.l0 k2 l1 l1 (l1.length : Int) (wrap64 (x24_2 + 1))))) = some r := by first | (rw [hy220]; with_reducible exact H) | (have H2_ := (Option.bind_some _ _).symm.trans H; rw [hy220]; with_reducible exact H2_) | (have H2_ := (Option.bind_some _ _).symm.trans H; with_reducible exact H2_) | with_reducible exact H | (rw [hy220]; exact H) | exact H
              have Ny220 := Aside0.mk hy220
              clear hy220
              replace H := Option.bind_eq_some_iff.mp H
              obtain ⟨t224, A350, H⟩ := H
              have A35 := Aside0.mk A350
              clear A350
              by_cases c36 : t224 = true
              ·subst c36
               rw [if_pos rfl] at H
               obtain rfl := Option.some.inj H
               have p216 : 0 ≤ (x24_2 : Int) := of_decide_eq_true (by first | (with_reducible assumption) | assumption)
               have q216 : x24_2 < (l1.length : Int) := of_decide_eq_true (by first | (with_reducible assumption) | assumption)
               obtain ⟨ad216, e216, hx216_0, hx216_1, hx216_2, hx216_3⟩ := at_T76 HR1.out x24_2 p216 q216
               cases e216
               replace hx216_0 := (HB.out.cell (World.block_lt_of_cell? w _ hx216_0)).trans hx216_0
               replace hx216_1 := (HB.out.cell (World.block_lt_of_cell? w _ hx216_1)).trans hx216_1
               replace hx216_2 := (HB.out.cell (World.block_lt_of_cell? w _ hx216_2)).trans hx216_2
               replace hx216_3 := (HB.out.cell (World.block_lt_of_cell? w _ hx216_3)).trans hx216_3
               replace p216 := eq_true p216
               replace q216 := eq_true q216
               try go_wp2_with (first | ((with_reducible refine gate_dst (N := 6) rfl ?_); (try (refine gate_guard (by rfl) ?_; dsimp only)); refine box_event ?hg (N := 6) ?hd (cs := #[.int .i64 0, .int .i64 0, .int .i64 0, .int .i64 0]) (t := 76) ?hr ?_; (case hd => rfl); (case hg => rfl); (case hr => first | (go_simp; done) | (go_simp; rfl)); intro gb217 hg w37 hbox hb; have n0_ := Aside0.mk (blk_below (g := gb213) (o := .cells #[.int .i64 a0_0, .int .i64 a0_1, .slice A0_2 l0_2.length c0_2] 26 (0, 0)) (by (with_reducible repeat (first | refine blk_drewN ?_ _ | refine blk_drew ?_ | refine blk_alloc ?_ _)); exact BK213.out) hb); have n1_ := Aside0.mk (below_step (by repeat (first | (with_reducible first | exact HB.out | apply below_alloc | apply pw_below_drewN | apply below_drew1 | refine below_set ?_ GE213.out) | exact HB.out)) hb); have n2_ := Aside0.mk (hbox); have n3_ := Aside0.mk ((by rw [hg]; exact (below_size (by repeat (first | (with_reducible first | exact HB.out | apply below_alloc | apply pw_below_drewN | apply below_drew1 | refine below_set ?_ GE213.out) | exact HB.out))) : w.heap.size ≤ gb217)); have n4_ := Aside0.mk ((by rw [hg]; exact (below_size (by repeat (first | (with_reducible first | exact HB.out | apply below_alloc | apply pw_below_drewN | apply below_drew1 | refine below_set ?_ GE213.out) | exact HB.out))) : w.heap.size ≤ gb217)); have n5_ := Aside0.mk ((by rw [hg]; exact Nat.ne_of_lt (blk_lt (g := gb213) (o := .cells #[.int .i64 a0_0, .int .i64 a0_1, .slice A0_2 l0_2.length c0_2] 26 (0, 0)) (by (with_reducible repeat (first | refine blk_drewN ?_ _ | refine blk_drew ?_ | refine blk_alloc ?_ _)); exact BK213.out)) : gb213 ≠ gb217)); have n6_ := Aside0.mk ((by rw [hg]; exact Nat.ne_of_gt (blk_lt (g := gb213) (o := .cells #[.int .i64 a0_0, .int .i64 a0_1, .slice A0_2 l0_2.length c0_2] 26 (0, 0)) (by (with_reducible repeat (first | refine blk_drewN ?_ _ | refine blk_drew ?_ | refine blk_alloc ?_ _)); exact BK213.out)) : gb217 ≠ gb213)); clear BK213; clear HB; have BK213 := n0_; have HB := n1_; have BK217 := n2_; have GW217 := n3_; have GE217 := n4_; have NB213_217 := n5_; have NB217_213 := n6_; clear n0_ n1_ n2_ n3_ n4_ n5_ n6_; clear hb hbox hg; have hnb38 := NB217_213.out; have hnc38 := NB213_217.out; have hcz39_0 : w37.cell? ⟨gb217, 0, none⟩ = some (.int .i64 0) := (blk_cell BK217.out 0).trans rfl; have hcz39_1 : w37.cell? ⟨gb217, 1, none⟩ = some (.int .i64 0) := (blk_cell BK217.out 1).trans rfl; have hcz39_2 : w37.cell? ⟨gb217, 2, none⟩ = some (.int .i64 0) := (blk_cell BK217.out 2).trans rfl; have hcz39_3 : w37.cell? ⟨gb217, 3, none⟩ = some (.int .i64 0) := (blk_cell BK217.out 3).trans rfl; have hfz39_0 := blk_frozen BK217.out 0; have hfz39_1 := blk_frozen BK217.out 1; have hfz39_2 := blk_frozen BK217.out 2; have hfz39_3 := blk_frozen BK217.out 3))
               have n0_ : Aside0 (((((w37.setCell ⟨gb217, 0, none⟩ (.int .i64 ((rd_T76 l1 x24_2).f0))).setCell ⟨gb217, 1, none⟩ (.int .i64 ((rd_T76 l1 x24_2).f1))).setCell ⟨gb217, 2, none⟩ (.int .i64 ((rd_T76 l1 x24_2).f2))).setCell ⟨gb217, 3, none⟩ (.int .i64 ((rd_T76 l1 x24_2).f3))).heap[gb213]? = some (.cells #[.int .i64 a0_0, .int .i64 a0_1, .slice A0_2 l0_2.length c0_2] 26 (0, 0))) := ⟨by (with_reducible repeat (first | refine blk_drewN ?_ _ | refine blk_drew ?_ | refine blk_alloc ?_ _)); refine blk_far ?_ NB213_217.out _; (with_reducible repeat (first | refine blk_drewN ?_ _ | refine blk_drew ?_ | refine blk_alloc ?_ _)); refine blk_far ?_ NB213_217.out _; (with_reducible repeat (first | refine blk_drewN ?_ _ | refine blk_drew ?_ | refine blk_alloc ?_ _)); refine blk_far ?_ NB213_217.out _; (with_reducible repeat (first | refine blk_drewN ?_ _ | refine blk_drew ?_ | refine blk_alloc ?_ _)); refine blk_far ?_ NB213_217.out _; (with_reducible repeat (first | refine blk_drewN ?_ _ | refine blk_drew ?_ | refine blk_alloc ?_ _)); exact BK213.out⟩
               have n1_ : Aside0 (((((w37.setCell ⟨gb217, 0, none⟩ (.int .i64 ((rd_T76 l1 x24_2).f0))).setCell ⟨gb217, 1, none⟩ (.int .i64 ((rd_T76 l1 x24_2).f1))).setCell ⟨gb217, 2, none⟩ (.int .i64 ((rd_T76 l1 x24_2).f2))).setCell ⟨gb217, 3, none⟩ (.int .i64 ((rd_T76 l1 x24_2).f3))).heap[gb217]? = some (.cells #[.int .i64 ((rd_T76 l1 x24_2).f0), .int .i64 ((rd_T76 l1 x24_2).f1), .int .i64 ((rd_T76 l1 x24_2).f2), .int .i64 ((rd_T76 l1 x24_2).f3)] 76 (0, 0))) := ⟨by (with_reducible repeat (first | refine blk_drewN ?_ _ | refine blk_drew ?_ | refine blk_alloc ?_ _)); refine blk_put (cs := #[.int .i64 ((rd_T76 l1 x24_2).f0), .int .i64 ((rd_T76 l1 x24_2).f1), .int .i64 ((rd_T76 l1 x24_2).f2), .int .i64 0]) ?_ 3 _ rfl; (with_reducible repeat (first | refine blk_drewN ?_ _ | refine blk_drew ?_ | refine blk_alloc ?_ _)); refine blk_put (cs := #[.int .i64 ((rd_T76 l1 x24_2).f0), .int .i64 ((rd_T76 l1 x24_2).f1), .int .i64 0, .int .i64 0]) ?_ 2 _ rfl; (with_reducible repeat (first | refine blk_drewN ?_ _ | refine blk_drew ?_ | refine blk_alloc ?_ _)); refine blk_put (cs := #[.int .i64 ((rd_T76 l1 x24_2).f0), .int .i64 0, .int .i64 0, .int .i64 0]) ?_ 1 _ rfl; (with_reducible repeat (first | refine blk_drewN ?_ _ | refine blk_drew ?_ | refine blk_alloc ?_ _)); refine blk_put (cs := #[.int .i64 0, .int .i64 0, .int .i64 0, .int .i64 0]) ?_ 0 _ rfl; (with_reducible repeat (first | refine blk_drewN ?_ _ | refine blk_drew ?_ | refine blk_alloc ?_ _)); exact BK217.out⟩
               have n2_ : Aside0 (Below w.heap.size w ((((w37.setCell ⟨gb217, 0, none⟩ (.int .i64 ((rd_T76 l1 x24_2).f0))).setCell ⟨gb217, 1, none⟩ (.int .i64 ((rd_T76 l1 x24_2).f1))).setCell ⟨gb217, 2, none⟩ (.int .i64 ((rd_T76 l1 x24_2).f2))).setCell ⟨gb217, 3, none⟩ (.int .i64 ((rd_T76 l1 x24_2).f3)))) := ⟨by repeat (first | (with_reducible first | exact HB.out | apply below_alloc | apply pw_below_drewN | apply below_drew1 | refine below_set ?_ GE213.out | refine below_set ?_ GE217.out) | exact HB.out)⟩
               (try clear BK213)
               (try clear BK217)
               (try clear HB)
               generalize ((((w37.setCell ⟨gb217, 0, none⟩ (.int .i64 ((rd_T76 l1 x24_2).f0))).setCell ⟨gb217, 1, none⟩ (.int .i64 ((rd_T76 l1 x24_2).f1))).setCell ⟨gb217, 2, none⟩ (.int .i64 ((rd_T76 l1 x24_2).f2))).setCell ⟨gb217, 3, none⟩ (.int .i64 ((rd_T76 l1 x24_2).f3))) = w40 at n0_ n1_ n2_ ⊢
               have BK213 := n0_
               have BK217 := n1_
               have HB := n2_
               clear n0_ n1_ n2_
               have n0_ := Aside0.mk (blk_drew BK213.out)
               have n1_ := Aside0.mk (blk_drew BK217.out)
               have n2_ := Aside0.mk (below_drew1 HB.out)
               clear BK213
               clear BK217
               clear HB
               have BK213 := n0_
               have BK217 := n1_
               have HB := n2_
               clear n0_ n1_ n2_
               have p218 : 0 ≤ ((ji22) : Int) := of_decide_eq_true (by first | (with_reducible assumption) | assumption)
               have q218 : (ji22) < (l1.length : Int) := of_decide_eq_true (by first | (with_reducible assumption) | assumption)
               obtain ⟨ad218, e218, hx218_0, hx218_1, hx218_2, hx218_3⟩ := at_T76 HR1.out (ji22) p218 q218
               have hw218_3 := hx218_3
               have hw218_2 := hx218_2
               have hw218_1 := hx218_1
               have hw218_0 := hx218_0
               obtain rfl : ad216 = ad218 := (by injection e218)
               replace hx218_0 := (HB.out.cell (World.block_lt_of_cell? w _ hx218_0)).trans hx218_0
               replace hx218_1 := (HB.out.cell (World.block_lt_of_cell? w _ hx218_1)).trans hx218_1
               replace hx218_2 := (HB.out.cell (World.block_lt_of_cell? w _ hx218_2)).trans hx218_2
               replace hx218_3 := (HB.out.cell (World.block_lt_of_cell? w _ hx218_3)).trans hx218_3
               replace p218 := eq_true p218
               replace q218 := eq_true q218
               refine start_ (n := 20) (S := fun w' => w'.cell? ⟨gb217, 0, none⟩ = some (.int .i64 ((rd_T76 l1 x24_2).f0)) ∧ w'.cell? ⟨gb217, 1, none⟩ = some (.int .i64 ((rd_T76 l1 x24_2).f1)) ∧ w'.cell? ⟨gb217, 2, none⟩ = some (.int .i64 ((rd_T76 l1 x24_2).f2)) ∧ w'.cell? ⟨gb217, 3, none⟩ = some (.int .i64 ((rd_T76 l1 x24_2).f3)) ∧ w'.cell? (ad216.add (((ji22)).toNat * 4)) = some (.int .i64 ((rd_T76 l1 (ji22)).f0)) ∧ w'.cell? ⟨(ad216.add (((ji22)).toNat * 4)).block, (ad216.add (((ji22)).toNat * 4)).off + 1, none⟩ = some (.int .i64 ((rd_T76 l1 (ji22)).f1)) ∧ w'.cell? ⟨(ad216.add (((ji22)).toNat * 4)).block, (ad216.add (((ji22)).toNat * 4)).off + 2, none⟩ = some (.int .i64 ((rd_T76 l1 (ji22)).f2)) ∧ w'.cell? ⟨(ad216.add (((ji22)).toNat * 4)).block, (ad216.add (((ji22)).toNat * 4)).off + 3, none⟩ = some (.int .i64 ((rd_T76 l1 (ji22)).f3))) (ds := []) D0_63 (by kernel_rfl) rfl rfl ⟨(blk_cell BK217.out 0).trans rfl, (blk_cell BK217.out 1).trans rfl, (blk_cell BK217.out 2).trans rfl, (blk_cell BK217.out 3).trans rfl, ((HB.out.cell (World.block_lt_of_cell? w _ hw218_0)).trans hw218_0), ((HB.out.cell (World.block_lt_of_cell? w _ hw218_1)).trans hw218_1), ((HB.out.cell (World.block_lt_of_cell? w _ hw218_2)).trans hw218_2), ((HB.out.cell (World.block_lt_of_cell? w _ hw218_3)).trans hw218_3)⟩ (fun hHeld => ?_); refine with_tabW impl_AreHoles.tab6 impl_AreHoles.bits6 (fun HT_ HW_ => ?_)
               generalize w40.drew = w41 at BK213 BK217 HB hx218_0 hx218_1 hx218_2 hx218_3 hHeld ⊢
               refine pure_ (i := 0) (N := some 29) (v := ?_) (a' := ?_) D1_63 rfl rfl (any_of HT_.out (by kernel_rfl)) (fun _ _ _ h => h) (Or.inl ⟨by rfl, ?_⟩) ?_ ?_
               rotate_left
               ·intro w'
                go_simp
                with_reducible rfl
               rotate_left
               ·simp only [Act.put, sS_, sZ_, sC_, i64_w, i32_w]
                rfl
               refine pure_ (i := 1) (N := some 30) (v := ?_) (a' := ?_) D2_63 rfl rfl (any_of HT_.out (by kernel_rfl)) (fun _ _ _ h => h) (Or.inl ⟨by rfl, ?_⟩) ?_ ?_
               rotate_left
               ·intro w'
                go_simp
                with_reducible rfl
               rotate_left
               ·simp only [Act.put, sS_, sZ_, sC_, i64_w, i32_w]
                rfl
               refine pure_ (i := 2) (N := some 31) (v := ?_) (a' := ?_) D3_63 rfl rfl (any_of HT_.out (by kernel_rfl)) (fun _ _ _ h => h) (Or.inl ⟨by rfl, ?_⟩) ?_ ?_
               rotate_left
               ·intro w'
                go_simp
                with_reducible rfl
               rotate_left
               ·simp only [Act.put, sS_, sZ_, sC_, i64_w, i32_w]
                rfl
               refine pure_ (i := 3) (N := some 32) (v := ?_) (a' := ?_) D4_63 rfl rfl (any_of HT_.out (by kernel_rfl)) (fun _ _ _ h => h) (Or.inl ⟨by rfl, ?_⟩) ?_ ?_
               rotate_left
               ·intro w'
                go_simp
                with_reducible rfl
               rotate_left
               ·simp only [Act.put, sS_, sZ_, sC_, i64_w, i32_w]
                rfl
               refine pure_ (i := 4) (N := some 33) (v := ?_) (a' := ?_) D5_63 rfl rfl (any_of HT_.out (by kernel_rfl)) (fun _ _ _ h => h) (Or.inl ⟨by rfl, ?_⟩) ?_ ?_
               rotate_left
               ·intro w'
                go_simp
                with_reducible rfl
               rotate_left
               ·simp only [Act.put, sS_, sZ_, sC_, i64_w, i32_w]
                rfl
               refine pure_ (i := 5) (N := some 34) (v := ?_) (a' := ?_) D6_63 rfl rfl (any_of HT_.out (by kernel_rfl)) (fun _ _ _ h => h) (Or.inl ⟨by rfl, ?_⟩) ?_ ?_
               rotate_left
               ·intro w'
                go_simp
                with_reducible rfl
               rotate_left
               ·simp only [Act.put, sS_, sZ_, sC_, i64_w, i32_w]
                rfl
               refine pure_ (i := 6) (N := some 35) (v := ?_) (a' := ?_) D7_63 rfl rfl (any_of HT_.out (by kernel_rfl)) (fun _ _ _ h => h) (Or.inl ⟨by rfl, ?_⟩) ?_ ?_
               rotate_left
               ·intro w'
                go_simp
                with_reducible rfl
               rotate_left
               ·simp only [Act.put, sS_, sZ_, sC_, i64_w, i32_w]
                rfl
               refine take_ (i := 7) (N := some 36) (v := ?_) (a' := ?_) D8_63 rfl rfl (take_ofW HT_.out HW_.out (by kernel_rfl)) (fun _ _ _ h => h) (Or.inl ⟨by rfl, ?_⟩) hHeld ?_ ?_
               rotate_left
               ·rintro w' ⟨s0, s1, s2, s3, s4, s5, s6, s7⟩
                go_simp
                with_reducible rfl
               rotate_left
               ·simp only [Act.put, sS_, sZ_, sC_, i64_w, i32_w]
                rfl
               refine take_ (i := 8) (N := some 37) (v := ?_) (a' := ?_) D9_63 rfl rfl (take_ofW HT_.out HW_.out (by kernel_rfl)) (fun _ _ _ h => h) (Or.inl ⟨by rfl, ?_⟩) hHeld ?_ ?_
               rotate_left
               ·rintro w' ⟨s0, s1, s2, s3, s4, s5, s6, s7⟩
                go_simp
                with_reducible rfl
               rotate_left
               ·simp only [Act.put, sS_, sZ_, sC_, i64_w, i32_w]
                rfl
               refine one_ (i := 9) (N := some 38) D10_63 rfl rfl (one_of HT_.out (by kernel_rfl)) (by decide) (fun K hK => ?_)
               refine goes_ Try.func117 (by kernel_rfl) rfl #[.agg #[.int .i64 ((rd_T76 l1 (ji22)).f0), .int .i64 ((rd_T76 l1 (ji22)).f1), .int .i64 ((rd_T76 l1 (ji22)).f2), .int .i64 ((rd_T76 l1 (ji22)).f3)], .agg #[.int .i64 ((rd_T76 l1 x24_2).f0), .int .i64 ((rd_T76 l1 x24_2).f1), .int .i64 ((rd_T76 l1 x24_2).f2), .int .i64 ((rd_T76 l1 x24_2).f3)]] (by rfl) rfl rfl (by (try simp only [List.map_toArray, List.map_cons, List.map_nil]); first | done | (simp only [hji22]; rfl) | rfl | (simp only [List.length_drop, List.length_take]; rfl)) ?_
               with_reducible refine (impl_Hole_compare.calls k2 ((rd_T76 l1 (ji22)).f0) ((rd_T76 l1 (ji22)).f1) ((rd_T76 l1 (ji22)).f2) ((rd_T76 l1 (ji22)).f3) ((rd_T76 l1 x24_2).f0) ((rd_T76 l1 x24_2).f1) ((rd_T76 l1 x24_2).f2) ((rd_T76 l1 x24_2).f3) t219 _ A25.out).mono ?_
               rintro e w42 ⟨rfl, hb⟩
               refine ⟨_, rfl, ?_⟩
               have n0_ := Aside0.mk (blk_below (g := gb213) (o := .cells #[.int .i64 a0_0, .int .i64 a0_1, .slice A0_2 l0_2.length c0_2] 26 (0, 0)) (by (with_reducible repeat (first | refine blk_drewN ?_ _ | refine blk_drew ?_ | refine blk_alloc ?_ _)); exact BK213.out) hb)
               have n1_ := Aside0.mk (blk_below (g := gb217) (o := .cells #[.int .i64 ((rd_T76 l1 x24_2).f0), .int .i64 ((rd_T76 l1 x24_2).f1), .int .i64 ((rd_T76 l1 x24_2).f2), .int .i64 ((rd_T76 l1 x24_2).f3)] 76 (0, 0)) (by (with_reducible repeat (first | refine blk_drewN ?_ _ | refine blk_drew ?_ | refine blk_alloc ?_ _)); exact BK217.out) hb)
               have n2_ := Aside0.mk (below_step (by repeat (first | (with_reducible first | exact HB.out | apply below_alloc | apply pw_below_drewN | apply below_drew1 | refine below_set ?_ GE213.out | refine below_set ?_ GE217.out) | exact HB.out)) hb)
               clear BK213
               clear BK217
               clear HB
               have BK213 := n0_
               have BK217 := n1_
               have HB := n2_
               clear n0_ n1_ n2_
               (try clear hb)
               (try clear hb2)
               (try clear hk)
               (try clear hi)
               have q43 : (x24_2 : Int) ≤ ((l1.length : Int) : Int) := of_decide_eq_true (by first | (with_reducible assumption) | assumption)
               obtain ⟨i043, hi043, _, hsz43, _⟩ := info_parts info76
               have hroom43 : l1.length ≤ c1 := HC1.out
               have hC43 : Kd.C k76 _ (some ad216) l1.length l1 := HR1.out
               have hcut43 := cut_to (P := Try.prog) 65 76 .i64 Try.underlying65 hi043 (some ad216) l1.length c1 x24_2 (of_decide_eq_true (by first | (with_reducible assumption) | assumption)) q43 hroom43
               have hr43 := Kd.C_take (m := (x24_2 : Int).toNat) hC43 (by omega)
               have hy43 : y220.length = (x24_2 : Int).toNat := (by rw [Ny220.out, List.length_take]; omega)
               rw [← Ny220.out] at hr43
               rw [← hy43] at hcut43
               have HR223 := Aside0.mk hr43
               have HC223 := Aside0.mk (show y220.length ≤ c1 from by omega)
               clear hr43 hC43 hroom43 hi043 hsz43
               have KY43 := Aside0.mk hy43
               clear hy43
               replace q43 := eq_true q43
               refine hK.out _ _ ⟨(blk_cell BK217.out 0).trans rfl, (blk_cell BK217.out 1).trans rfl, (blk_cell BK217.out 2).trans rfl, (blk_cell BK217.out 3).trans rfl, ((HB.out.cell (World.block_lt_of_cell? w _ hw218_0)).trans hw218_0), ((HB.out.cell (World.block_lt_of_cell? w _ hw218_1)).trans hw218_1), ((HB.out.cell (World.block_lt_of_cell? w _ hw218_2)).trans hw218_2), ((HB.out.cell (World.block_lt_of_cell? w _ hw218_3)).trans hw218_3)⟩ (fun hHeld => ?_)
               clear hK K
               refine norm_ (a' := ?_) ?_ ?_
               rotate_left
               ·show Act.put _ (some 38) _ = _
                simp only [Act.put, sS_, sZ_, sC_, i64_w, i32_w]
                rfl
               refine pure_ (i := 10) (N := some 39) (v := ?_) (a' := ?_) D11_63 rfl rfl (any_of HT_.out (by kernel_rfl)) (fun _ _ _ h => h) (Or.inl ⟨by rfl, ?_⟩) ?_ ?_
               rotate_left
               ·intro w'
                go_simp
                with_reducible rfl
               rotate_left
               ·simp only [Act.put, sS_, sZ_, sC_, i64_w, i32_w]
                rfl
               refine pure_ (i := 11) (N := some 40) (v := ?_) (a' := ?_) D12_63 rfl rfl (any_of HT_.out (by kernel_rfl)) (fun _ _ _ h => h) (Or.inl ⟨by rfl, ?_⟩) ?_ ?_
               rotate_left
               ·intro w'
                go_simp
                with_reducible rfl
               rotate_left
               ·simp only [Act.put, sS_, sZ_, sC_, i64_w, i32_w]
                rfl
               refine pure_ (i := 12) (N := some 41) (v := ?_) (a' := ?_) D13_63 rfl rfl (any_of HT_.out (by kernel_rfl)) (fun _ _ _ h => h) (Or.inl ⟨by rfl, ?_⟩) ?_ ?_
               rotate_left
               ·intro w'
                go_simp
                with_reducible rfl
               rotate_left
               ·simp only [Act.put, sS_, sZ_, sC_, i64_w, i32_w]
                rfl
               refine pure_ (i := 13) (N := some 42) (v := ?_) (a' := ?_) D14_63 rfl rfl (any_of HT_.out (by kernel_rfl)) (fun _ _ _ h => h) (Or.inl ⟨by rfl, ?_⟩) ?_ ?_
               rotate_left
               ·intro w'
                go_simp
                with_reducible rfl
               rotate_left
               ·simp only [Act.put, sS_, sZ_, sC_, i64_w, i32_w]
                rfl
               refine pure_ (i := 14) (N := some 43) (v := ?_) (a' := ?_) D15_63 rfl rfl (any_of HT_.out (by kernel_rfl)) (fun _ _ _ h => h) (Or.inl ⟨by rfl, ?_⟩) ?_ ?_
               rotate_left
               ·intro w'
                go_simp
                with_reducible rfl
               rotate_left
               ·simp only [Act.put, sS_, sZ_, sC_, i64_w, i32_w]
                rfl
               refine pure_ (i := 15) (N := some 44) (v := ?_) (a' := ?_) D16_63 rfl rfl (any_of HT_.out (by kernel_rfl)) (fun _ _ _ h => h) (Or.inl ⟨by rfl, ?_⟩) ?_ ?_
               rotate_left
               ·intro w'
                go_simp
                with_reducible rfl
               rotate_left
               ·simp only [Act.put, sS_, sZ_, sC_, i64_w, i32_w]
                rfl
               refine take_ (i := 16) (N := some 45) (v := ?_) (a' := ?_) D17_63 rfl rfl (take_ofW HT_.out HW_.out (by kernel_rfl)) (fun _ _ _ h => h) (Or.inl ⟨by rfl, ?_⟩) hHeld ?_ ?_
               rotate_left
               ·rintro w' ⟨s0, s1, s2, s3, s4, s5, s6, s7⟩
                go_simp
                with_reducible rfl
               rotate_left
               ·simp only [Act.put, sS_, sZ_, sC_, i64_w, i32_w]
                rfl
               refine pure_ (i := 17) (N := some 46) (v := ?_) (a' := ?_) D18_63 rfl rfl (any_of HT_.out (by kernel_rfl)) (fun _ _ _ h => h) (Or.inl ⟨by rfl, ?_⟩) ?_ ?_
               rotate_left
               ·intro w'
                go_simp
                with_reducible rfl
               rotate_left
               ·simp only [Act.put, sS_, sZ_, sC_, i64_w, i32_w]
                rfl
               refine one_ (i := 18) (N := some 47) D19_63 rfl rfl (one_of HT_.out (by kernel_rfl)) (by decide) (fun K hK => ?_)
               refine goes_ Try.func131 (by kernel_rfl) rfl #[.slice (some ad216) y220.length c1, .func (.func 114) #[.agg #[.int .i64 ((rd_T76 l1 x24_2).f0), .int .i64 ((rd_T76 l1 x24_2).f1), .int .i64 ((rd_T76 l1 x24_2).f2), .int .i64 ((rd_T76 l1 x24_2).f3)]] #[]] (by rfl) rfl rfl (by (try simp only [List.map_toArray, List.map_cons, List.map_nil]); first | done | rfl | (simp only [List.length_drop, List.length_take]; rfl)) ?_
               with_reducible refine (impl_Hole_131__impl_Hole_meets.calls _ _ y220 ((rd_T76 l1 x24_2).f0) ((rd_T76 l1 x24_2).f1) ((rd_T76 l1 x24_2).f2) ((rd_T76 l1 x24_2).f3) true _ ?side1 ?side2 A35.out).mono ?_
               (case side1 => repeat (first | exact (Kd.C_below HR223.out HB.out) | (with_reducible refine Kd.C_alloc ?_ _) | (with_reducible refine Kd.C_drewN ?_ _) | (with_reducible refine Kd.C_drew ?_)))
               (case side2 => exact HC223.out)
               rintro e w44 ⟨rfl, hb⟩
               refine ⟨_, rfl, ?_⟩
               have n0_ := Aside0.mk (blk_below (g := gb213) (o := .cells #[.int .i64 a0_0, .int .i64 a0_1, .slice A0_2 l0_2.length c0_2] 26 (0, 0)) (by (with_reducible repeat (first | refine blk_drewN ?_ _ | refine blk_drew ?_ | refine blk_alloc ?_ _)); exact BK213.out) hb)
               have n1_ := Aside0.mk (blk_below (g := gb217) (o := .cells #[.int .i64 ((rd_T76 l1 x24_2).f0), .int .i64 ((rd_T76 l1 x24_2).f1), .int .i64 ((rd_T76 l1 x24_2).f2), .int .i64 ((rd_T76 l1 x24_2).f3)] 76 (0, 0)) (by (with_reducible repeat (first | refine blk_drewN ?_ _ | refine blk_drew ?_ | refine blk_alloc ?_ _)); exact BK217.out) hb)
               have n2_ := Aside0.mk (below_step (by repeat (first | (with_reducible first | exact HB.out | apply below_alloc | apply pw_below_drewN | apply below_drew1 | refine below_set ?_ GE213.out | refine below_set ?_ GE217.out) | exact HB.out)) hb)
               clear BK213
               clear BK217
               clear HB
               have BK213 := n0_
               have BK217 := n1_
               have HB := n2_
               clear n0_ n1_ n2_
               (try clear hb)
               (try clear hb2)
               (try clear hk)
               (try clear hi)
               refine hK.out _ _ ⟨(blk_cell BK217.out 0).trans rfl, (blk_cell BK217.out 1).trans rfl, (blk_cell BK217.out 2).trans rfl, (blk_cell BK217.out 3).trans rfl, ((HB.out.cell (World.block_lt_of_cell? w _ hw218_0)).trans hw218_0), ((HB.out.cell (World.block_lt_of_cell? w _ hw218_1)).trans hw218_1), ((HB.out.cell (World.block_lt_of_cell? w _ hw218_2)).trans hw218_2), ((HB.out.cell (World.block_lt_of_cell? w _ hw218_3)).trans hw218_3)⟩ (fun hHeld => ?_)
               clear hK K
               refine norm_ (a' := ?_) ?_ ?_
               rotate_left
               ·show Act.put _ (some 47) _ = _
                simp only [Act.put, sS_, sZ_, sC_, i64_w, i32_w]
                rfl
               refine pure_ (i := 19) (N := some 48) (v := ?_) (a' := ?_) D20_63 rfl rfl (any_of HT_.out (by kernel_rfl)) (fun _ _ _ h => h) (Or.inl ⟨by rfl, ?_⟩) ?_ ?_
               rotate_left
               ·intro w'
                go_simp
                with_reducible rfl
               rotate_left
               ·simp only [Act.put, sS_, sZ_, sC_, i64_w, i32_w]
                rfl
               refine done_ (done_of HT_.out (by kernel_rfl)) ?_
               try go_wp2
               go_ret
               exact ⟨by first | rfl | (simp [errW_none, errW_some] <;> rfl) | (simp only [← hji22]; first | rfl | (simp [errW_none, errW_some] <;> rfl)) | (simp [*, errW_none, errW_some] <;> rfl) | (simp [wrap64]; done), by repeat (first | (with_reducible first | exact HB.out | apply below_alloc | apply pw_below_drewN | apply below_drew1 | refine below_set ?_ GE213.out | refine below_set ?_ GE217.out) | exact HB.out)⟩
              ·replace c36 := Bool.eq_false_iff.mpr c36
               subst c36
               rw [if_neg (show ¬ (false = true) by decide)] at H
               have H' := Aside0.mk H
               clear H
               have p216 : 0 ≤ (x24_2 : Int) := of_decide_eq_true (by first | (with_reducible assumption) | assumption)
               have q216 : x24_2 < (l1.length : Int) := of_decide_eq_true (by first | (with_reducible assumption) | assumption)
               obtain ⟨ad216, e216, hx216_0, hx216_1, hx216_2, hx216_3⟩ := at_T76 HR1.out x24_2 p216 q216
               cases e216
               replace hx216_0 := (HB.out.cell (World.block_lt_of_cell? w _ hx216_0)).trans hx216_0
               replace hx216_1 := (HB.out.cell (World.block_lt_of_cell? w _ hx216_1)).trans hx216_1
               replace hx216_2 := (HB.out.cell (World.block_lt_of_cell? w _ hx216_2)).trans hx216_2
               replace hx216_3 := (HB.out.cell (World.block_lt_of_cell? w _ hx216_3)).trans hx216_3
               replace p216 := eq_true p216
               replace q216 := eq_true q216
               try go_wp2_with (first | ((with_reducible refine gate_dst (N := 6) rfl ?_); (try (refine gate_guard (by rfl) ?_; dsimp only)); refine box_event ?hg (N := 6) ?hd (cs := #[.int .i64 0, .int .i64 0, .int .i64 0, .int .i64 0]) (t := 76) ?hr ?_; (case hd => rfl); (case hg => rfl); (case hr => first | (go_simp; done) | (go_simp; rfl)); intro gb217 hg w45 hbox hb; have n0_ := Aside0.mk (blk_below (g := gb213) (o := .cells #[.int .i64 a0_0, .int .i64 a0_1, .slice A0_2 l0_2.length c0_2] 26 (0, 0)) (by (with_reducible repeat (first | refine blk_drewN ?_ _ | refine blk_drew ?_ | refine blk_alloc ?_ _)); exact BK213.out) hb); have n1_ := Aside0.mk (below_step (by repeat (first | (with_reducible first | exact HB.out | apply below_alloc | apply pw_below_drewN | apply below_drew1 | refine below_set ?_ GE213.out) | exact HB.out)) hb); have n2_ := Aside0.mk (hbox); have n3_ := Aside0.mk ((by rw [hg]; exact (below_size (by repeat (first | (with_reducible first | exact HB.out | apply below_alloc | apply pw_below_drewN | apply below_drew1 | refine below_set ?_ GE213.out) | exact HB.out))) : w.heap.size ≤ gb217)); have n4_ := Aside0.mk ((by rw [hg]; exact (below_size (by repeat (first | (with_reducible first | exact HB.out | apply below_alloc | apply pw_below_drewN | apply below_drew1 | refine below_set ?_ GE213.out) | exact HB.out))) : w.heap.size ≤ gb217)); have n5_ := Aside0.mk ((by rw [hg]; exact Nat.ne_of_lt (blk_lt (g := gb213) (o := .cells #[.int .i64 a0_0, .int .i64 a0_1, .slice A0_2 l0_2.length c0_2] 26 (0, 0)) (by (with_reducible repeat (first | refine blk_drewN ?_ _ | refine blk_drew ?_ | refine blk_alloc ?_ _)); exact BK213.out)) : gb213 ≠ gb217)); have n6_ := Aside0.mk ((by rw [hg]; exact Nat.ne_of_gt (blk_lt (g := gb213) (o := .cells #[.int .i64 a0_0, .int .i64 a0_1, .slice A0_2 l0_2.length c0_2] 26 (0, 0)) (by (with_reducible repeat (first | refine blk_drewN ?_ _ | refine blk_drew ?_ | refine blk_alloc ?_ _)); exact BK213.out)) : gb217 ≠ gb213)); clear BK213; clear HB; have BK213 := n0_; have HB := n1_; have BK217 := n2_; have GW217 := n3_; have GE217 := n4_; have NB213_217 := n5_; have NB217_213 := n6_; clear n0_ n1_ n2_ n3_ n4_ n5_ n6_; clear hb hbox hg; have hnb46 := NB217_213.out; have hnc46 := NB213_217.out; have hcz47_0 : w45.cell? ⟨gb217, 0, none⟩ = some (.int .i64 0) := (blk_cell BK217.out 0).trans rfl; have hcz47_1 : w45.cell? ⟨gb217, 1, none⟩ = some (.int .i64 0) := (blk_cell BK217.out 1).trans rfl; have hcz47_2 : w45.cell? ⟨gb217, 2, none⟩ = some (.int .i64 0) := (blk_cell BK217.out 2).trans rfl; have hcz47_3 : w45.cell? ⟨gb217, 3, none⟩ = some (.int .i64 0) := (blk_cell BK217.out 3).trans rfl; have hfz47_0 := blk_frozen BK217.out 0; have hfz47_1 := blk_frozen BK217.out 1; have hfz47_2 := blk_frozen BK217.out 2; have hfz47_3 := blk_frozen BK217.out 3))
               have n0_ : Aside0 (((((w45.setCell ⟨gb217, 0, none⟩ (.int .i64 ((rd_T76 l1 x24_2).f0))).setCell ⟨gb217, 1, none⟩ (.int .i64 ((rd_T76 l1 x24_2).f1))).setCell ⟨gb217, 2, none⟩ (.int .i64 ((rd_T76 l1 x24_2).f2))).setCell ⟨gb217, 3, none⟩ (.int .i64 ((rd_T76 l1 x24_2).f3))).heap[gb213]? = some (.cells #[.int .i64 a0_0, .int .i64 a0_1, .slice A0_2 l0_2.length c0_2] 26 (0, 0))) := ⟨by (with_reducible repeat (first | refine blk_drewN ?_ _ | refine blk_drew ?_ | refine blk_alloc ?_ _)); refine blk_far ?_ NB213_217.out _; (with_reducible repeat (first | refine blk_drewN ?_ _ | refine blk_drew ?_ | refine blk_alloc ?_ _)); refine blk_far ?_ NB213_217.out _; (with_reducible repeat (first | refine blk_drewN ?_ _ | refine blk_drew ?_ | refine blk_alloc ?_ _)); refine blk_far ?_ NB213_217.out _; (with_reducible repeat (first | refine blk_drewN ?_ _ | refine blk_drew ?_ | refine blk_alloc ?_ _)); refine blk_far ?_ NB213_217.out _; (with_reducible repeat (first | refine blk_drewN ?_ _ | refine blk_drew ?_ | refine blk_alloc ?_ _)); exact BK213.out⟩
               have n1_ : Aside0 (((((w45.setCell ⟨gb217, 0, none⟩ (.int .i64 ((rd_T76 l1 x24_2).f0))).setCell ⟨gb217, 1, none⟩ (.int .i64 ((rd_T76 l1 x24_2).f1))).setCell ⟨gb217, 2, none⟩ (.int .i64 ((rd_T76 l1 x24_2).f2))).setCell ⟨gb217, 3, none⟩ (.int .i64 ((rd_T76 l1 x24_2).f3))).heap[gb217]? = some (.cells #[.int .i64 ((rd_T76 l1 x24_2).f0), .int .i64 ((rd_T76 l1 x24_2).f1), .int .i64 ((rd_T76 l1 x24_2).f2), .int .i64 ((rd_T76 l1 x24_2).f3)] 76 (0, 0))) := ⟨by (with_reducible repeat (first | refine blk_drewN ?_ _ | refine blk_drew ?_ | refine blk_alloc ?_ _)); refine blk_put (cs := #[.int .i64 ((rd_T76 l1 x24_2).f0), .int .i64 ((rd_T76 l1 x24_2).f1), .int .i64 ((rd_T76 l1 x24_2).f2), .int .i64 0]) ?_ 3 _ rfl; (with_reducible repeat (first | refine blk_drewN ?_ _ | refine blk_drew ?_ | refine blk_alloc ?_ _)); refine blk_put (cs := #[.int .i64 ((rd_T76 l1 x24_2).f0), .int .i64 ((rd_T76 l1 x24_2).f1), .int .i64 0, .int .i64 0]) ?_ 2 _ rfl; (with_reducible repeat (first | refine blk_drewN ?_ _ | refine blk_drew ?_ | refine blk_alloc ?_ _)); refine blk_put (cs := #[.int .i64 ((rd_T76 l1 x24_2).f0), .int .i64 0, .int .i64 0, .int .i64 0]) ?_ 1 _ rfl; (with_reducible repeat (first | refine blk_drewN ?_ _ | refine blk_drew ?_ | refine blk_alloc ?_ _)); refine blk_put (cs := #[.int .i64 0, .int .i64 0, .int .i64 0, .int .i64 0]) ?_ 0 _ rfl; (with_reducible repeat (first | refine blk_drewN ?_ _ | refine blk_drew ?_ | refine blk_alloc ?_ _)); exact BK217.out⟩
               have n2_ : Aside0 (Below w.heap.size w ((((w45.setCell ⟨gb217, 0, none⟩ (.int .i64 ((rd_T76 l1 x24_2).f0))).setCell ⟨gb217, 1, none⟩ (.int .i64 ((rd_T76 l1 x24_2).f1))).setCell ⟨gb217, 2, none⟩ (.int .i64 ((rd_T76 l1 x24_2).f2))).setCell ⟨gb217, 3, none⟩ (.int .i64 ((rd_T76 l1 x24_2).f3)))) := ⟨by repeat (first | (with_reducible first | exact HB.out | apply below_alloc | apply pw_below_drewN | apply below_drew1 | refine below_set ?_ GE213.out | refine below_set ?_ GE217.out) | exact HB.out)⟩
               (try clear BK213)
               (try clear BK217)
               (try clear HB)
               generalize ((((w45.setCell ⟨gb217, 0, none⟩ (.int .i64 ((rd_T76 l1 x24_2).f0))).setCell ⟨gb217, 1, none⟩ (.int .i64 ((rd_T76 l1 x24_2).f1))).setCell ⟨gb217, 2, none⟩ (.int .i64 ((rd_T76 l1 x24_2).f2))).setCell ⟨gb217, 3, none⟩ (.int .i64 ((rd_T76 l1 x24_2).f3))) = w48 at n0_ n1_ n2_ ⊢
               have BK213 := n0_
               have BK217 := n1_
               have HB := n2_
               clear n0_ n1_ n2_
               have n0_ := Aside0.mk (blk_drew BK213.out)
               have n1_ := Aside0.mk (blk_drew BK217.out)
               have n2_ := Aside0.mk (below_drew1 HB.out)
               clear BK213
               clear BK217
               clear HB
               have BK213 := n0_
               have BK217 := n1_
               have HB := n2_
               clear n0_ n1_ n2_
               have p218 : 0 ≤ ((ji22) : Int) := of_decide_eq_true (by first | (with_reducible assumption) | assumption)
               have q218 : (ji22) < (l1.length : Int) := of_decide_eq_true (by first | (with_reducible assumption) | assumption)
               obtain ⟨ad218, e218, hx218_0, hx218_1, hx218_2, hx218_3⟩ := at_T76 HR1.out (ji22) p218 q218
               have hw218_3 := hx218_3
               have hw218_2 := hx218_2
               have hw218_1 := hx218_1
               have hw218_0 := hx218_0
               obtain rfl : ad216 = ad218 := (by injection e218)
               replace hx218_0 := (HB.out.cell (World.block_lt_of_cell? w _ hx218_0)).trans hx218_0
               replace hx218_1 := (HB.out.cell (World.block_lt_of_cell? w _ hx218_1)).trans hx218_1
               replace hx218_2 := (HB.out.cell (World.block_lt_of_cell? w _ hx218_2)).trans hx218_2
               replace hx218_3 := (HB.out.cell (World.block_lt_of_cell? w _ hx218_3)).trans hx218_3
               replace p218 := eq_true p218
               replace q218 := eq_true q218
               refine start_ (n := 20) (S := fun w' => w'.cell? ⟨gb217, 0, none⟩ = some (.int .i64 ((rd_T76 l1 x24_2).f0)) ∧ w'.cell? ⟨gb217, 1, none⟩ = some (.int .i64 ((rd_T76 l1 x24_2).f1)) ∧ w'.cell? ⟨gb217, 2, none⟩ = some (.int .i64 ((rd_T76 l1 x24_2).f2)) ∧ w'.cell? ⟨gb217, 3, none⟩ = some (.int .i64 ((rd_T76 l1 x24_2).f3)) ∧ w'.cell? (ad216.add (((ji22)).toNat * 4)) = some (.int .i64 ((rd_T76 l1 (ji22)).f0)) ∧ w'.cell? ⟨(ad216.add (((ji22)).toNat * 4)).block, (ad216.add (((ji22)).toNat * 4)).off + 1, none⟩ = some (.int .i64 ((rd_T76 l1 (ji22)).f1)) ∧ w'.cell? ⟨(ad216.add (((ji22)).toNat * 4)).block, (ad216.add (((ji22)).toNat * 4)).off + 2, none⟩ = some (.int .i64 ((rd_T76 l1 (ji22)).f2)) ∧ w'.cell? ⟨(ad216.add (((ji22)).toNat * 4)).block, (ad216.add (((ji22)).toNat * 4)).off + 3, none⟩ = some (.int .i64 ((rd_T76 l1 (ji22)).f3))) (ds := []) D0_63 (by kernel_rfl) rfl rfl ⟨(blk_cell BK217.out 0).trans rfl, (blk_cell BK217.out 1).trans rfl, (blk_cell BK217.out 2).trans rfl, (blk_cell BK217.out 3).trans rfl, ((HB.out.cell (World.block_lt_of_cell? w _ hw218_0)).trans hw218_0), ((HB.out.cell (World.block_lt_of_cell? w _ hw218_1)).trans hw218_1), ((HB.out.cell (World.block_lt_of_cell? w _ hw218_2)).trans hw218_2), ((HB.out.cell (World.block_lt_of_cell? w _ hw218_3)).trans hw218_3)⟩ (fun hHeld => ?_); refine with_tabW impl_AreHoles.tab6 impl_AreHoles.bits6 (fun HT_ HW_ => ?_)
               generalize w48.drew = w49 at BK213 BK217 HB hx218_0 hx218_1 hx218_2 hx218_3 hHeld ⊢
               refine pure_ (i := 0) (N := some 29) (v := ?_) (a' := ?_) D1_63 rfl rfl (any_of HT_.out (by kernel_rfl)) (fun _ _ _ h => h) (Or.inl ⟨by rfl, ?_⟩) ?_ ?_
               rotate_left
               ·intro w'
                go_simp
                with_reducible rfl
               rotate_left
               ·simp only [Act.put, sS_, sZ_, sC_, i64_w, i32_w]
                rfl
               refine pure_ (i := 1) (N := some 30) (v := ?_) (a' := ?_) D2_63 rfl rfl (any_of HT_.out (by kernel_rfl)) (fun _ _ _ h => h) (Or.inl ⟨by rfl, ?_⟩) ?_ ?_
               rotate_left
               ·intro w'
                go_simp
                with_reducible rfl
               rotate_left
               ·simp only [Act.put, sS_, sZ_, sC_, i64_w, i32_w]
                rfl
               refine pure_ (i := 2) (N := some 31) (v := ?_) (a' := ?_) D3_63 rfl rfl (any_of HT_.out (by kernel_rfl)) (fun _ _ _ h => h) (Or.inl ⟨by rfl, ?_⟩) ?_ ?_
               rotate_left
               ·intro w'
                go_simp
                with_reducible rfl
               rotate_left
               ·simp only [Act.put, sS_, sZ_, sC_, i64_w, i32_w]
                rfl
               refine pure_ (i := 3) (N := some 32) (v := ?_) (a' := ?_) D4_63 rfl rfl (any_of HT_.out (by kernel_rfl)) (fun _ _ _ h => h) (Or.inl ⟨by rfl, ?_⟩) ?_ ?_
               rotate_left
               ·intro w'
                go_simp
                with_reducible rfl
               rotate_left
               ·simp only [Act.put, sS_, sZ_, sC_, i64_w, i32_w]
                rfl
               refine pure_ (i := 4) (N := some 33) (v := ?_) (a' := ?_) D5_63 rfl rfl (any_of HT_.out (by kernel_rfl)) (fun _ _ _ h => h) (Or.inl ⟨by rfl, ?_⟩) ?_ ?_
               rotate_left
               ·intro w'
                go_simp
                with_reducible rfl
               rotate_left
               ·simp only [Act.put, sS_, sZ_, sC_, i64_w, i32_w]
                rfl
               refine pure_ (i := 5) (N := some 34) (v := ?_) (a' := ?_) D6_63 rfl rfl (any_of HT_.out (by kernel_rfl)) (fun _ _ _ h => h) (Or.inl ⟨by rfl, ?_⟩) ?_ ?_
               rotate_left
               ·intro w'
                go_simp
                with_reducible rfl
               rotate_left
               ·simp only [Act.put, sS_, sZ_, sC_, i64_w, i32_w]
                rfl
               refine pure_ (i := 6) (N := some 35) (v := ?_) (a' := ?_) D7_63 rfl rfl (any_of HT_.out (by kernel_rfl)) (fun _ _ _ h => h) (Or.inl ⟨by rfl, ?_⟩) ?_ ?_
               rotate_left
               ·intro w'
                go_simp
                with_reducible rfl
               rotate_left
               ·simp only [Act.put, sS_, sZ_, sC_, i64_w, i32_w]
                rfl
               refine take_ (i := 7) (N := some 36) (v := ?_) (a' := ?_) D8_63 rfl rfl (take_ofW HT_.out HW_.out (by kernel_rfl)) (fun _ _ _ h => h) (Or.inl ⟨by rfl, ?_⟩) hHeld ?_ ?_
               rotate_left
               ·rintro w' ⟨s0, s1, s2, s3, s4, s5, s6, s7⟩
                go_simp
                with_reducible rfl
               rotate_left
               ·simp only [Act.put, sS_, sZ_, sC_, i64_w, i32_w]
                rfl
               refine take_ (i := 8) (N := some 37) (v := ?_) (a' := ?_) D9_63 rfl rfl (take_ofW HT_.out HW_.out (by kernel_rfl)) (fun _ _ _ h => h) (Or.inl ⟨by rfl, ?_⟩) hHeld ?_ ?_
               rotate_left
               ·rintro w' ⟨s0, s1, s2, s3, s4, s5, s6, s7⟩
                go_simp
                with_reducible rfl
               rotate_left
               ·simp only [Act.put, sS_, sZ_, sC_, i64_w, i32_w]
                rfl
               refine one_ (i := 9) (N := some 38) D10_63 rfl rfl (one_of HT_.out (by kernel_rfl)) (by decide) (fun K hK => ?_)
               refine goes_ Try.func117 (by kernel_rfl) rfl #[.agg #[.int .i64 ((rd_T76 l1 (ji22)).f0), .int .i64 ((rd_T76 l1 (ji22)).f1), .int .i64 ((rd_T76 l1 (ji22)).f2), .int .i64 ((rd_T76 l1 (ji22)).f3)], .agg #[.int .i64 ((rd_T76 l1 x24_2).f0), .int .i64 ((rd_T76 l1 x24_2).f1), .int .i64 ((rd_T76 l1 x24_2).f2), .int .i64 ((rd_T76 l1 x24_2).f3)]] (by rfl) rfl rfl (by (try simp only [List.map_toArray, List.map_cons, List.map_nil]); first | done | (simp only [hji22]; rfl) | rfl | (simp only [List.length_drop, List.length_take]; rfl)) ?_
               with_reducible refine (impl_Hole_compare.calls k2 ((rd_T76 l1 (ji22)).f0) ((rd_T76 l1 (ji22)).f1) ((rd_T76 l1 (ji22)).f2) ((rd_T76 l1 (ji22)).f3) ((rd_T76 l1 x24_2).f0) ((rd_T76 l1 x24_2).f1) ((rd_T76 l1 x24_2).f2) ((rd_T76 l1 x24_2).f3) t219 _ A25.out).mono ?_
               rintro e w50 ⟨rfl, hb⟩
               refine ⟨_, rfl, ?_⟩
               have n0_ := Aside0.mk (blk_below (g := gb213) (o := .cells #[.int .i64 a0_0, .int .i64 a0_1, .slice A0_2 l0_2.length c0_2] 26 (0, 0)) (by (with_reducible repeat (first | refine blk_drewN ?_ _ | refine blk_drew ?_ | refine blk_alloc ?_ _)); exact BK213.out) hb)
               have n1_ := Aside0.mk (blk_below (g := gb217) (o := .cells #[.int .i64 ((rd_T76 l1 x24_2).f0), .int .i64 ((rd_T76 l1 x24_2).f1), .int .i64 ((rd_T76 l1 x24_2).f2), .int .i64 ((rd_T76 l1 x24_2).f3)] 76 (0, 0)) (by (with_reducible repeat (first | refine blk_drewN ?_ _ | refine blk_drew ?_ | refine blk_alloc ?_ _)); exact BK217.out) hb)
               have n2_ := Aside0.mk (below_step (by repeat (first | (with_reducible first | exact HB.out | apply below_alloc | apply pw_below_drewN | apply below_drew1 | refine below_set ?_ GE213.out | refine below_set ?_ GE217.out) | exact HB.out)) hb)
               clear BK213
               clear BK217
               clear HB
               have BK213 := n0_
               have BK217 := n1_
               have HB := n2_
               clear n0_ n1_ n2_
               (try clear hb)
               (try clear hb2)
               (try clear hk)
               (try clear hi)
               have q51 : (x24_2 : Int) ≤ ((l1.length : Int) : Int) := of_decide_eq_true (by first | (with_reducible assumption) | assumption)
               obtain ⟨i051, hi051, _, hsz51, _⟩ := info_parts info76
               have hroom51 : l1.length ≤ c1 := HC1.out
               have hC51 : Kd.C k76 _ (some ad216) l1.length l1 := HR1.out
               have hcut51 := cut_to (P := Try.prog) 65 76 .i64 Try.underlying65 hi051 (some ad216) l1.length c1 x24_2 (of_decide_eq_true (by first | (with_reducible assumption) | assumption)) q51 hroom51
               have hr51 := Kd.C_take (m := (x24_2 : Int).toNat) hC51 (by omega)
               have hy51 : y220.length = (x24_2 : Int).toNat := (by rw [Ny220.out, List.length_take]; omega)
               rw [← Ny220.out] at hr51
               rw [← hy51] at hcut51
               have HR223 := Aside0.mk hr51
               have HC223 := Aside0.mk (show y220.length ≤ c1 from by omega)
               clear hr51 hC51 hroom51 hi051 hsz51
               have KY51 := Aside0.mk hy51
               clear hy51
               replace q51 := eq_true q51
               refine hK.out _ _ ⟨(blk_cell BK217.out 0).trans rfl, (blk_cell BK217.out 1).trans rfl, (blk_cell BK217.out 2).trans rfl, (blk_cell BK217.out 3).trans rfl, ((HB.out.cell (World.block_lt_of_cell? w _ hw218_0)).trans hw218_0), ((HB.out.cell (World.block_lt_of_cell? w _ hw218_1)).trans hw218_1), ((HB.out.cell (World.block_lt_of_cell? w _ hw218_2)).trans hw218_2), ((HB.out.cell (World.block_lt_of_cell? w _ hw218_3)).trans hw218_3)⟩ (fun hHeld => ?_)
               clear hK K
               refine norm_ (a' := ?_) ?_ ?_
               rotate_left
               ·show Act.put _ (some 38) _ = _
                simp only [Act.put, sS_, sZ_, sC_, i64_w, i32_w]
                rfl
               refine pure_ (i := 10) (N := some 39) (v := ?_) (a' := ?_) D11_63 rfl rfl (any_of HT_.out (by kernel_rfl)) (fun _ _ _ h => h) (Or.inl ⟨by rfl, ?_⟩) ?_ ?_
               rotate_left
               ·intro w'
                go_simp
                with_reducible rfl
               rotate_left
               ·simp only [Act.put, sS_, sZ_, sC_, i64_w, i32_w]
                rfl
               refine pure_ (i := 11) (N := some 40) (v := ?_) (a' := ?_) D12_63 rfl rfl (any_of HT_.out (by kernel_rfl)) (fun _ _ _ h => h) (Or.inl ⟨by rfl, ?_⟩) ?_ ?_
               rotate_left
               ·intro w'
                go_simp
                with_reducible rfl
               rotate_left
               ·simp only [Act.put, sS_, sZ_, sC_, i64_w, i32_w]
                rfl
               refine pure_ (i := 12) (N := some 41) (v := ?_) (a' := ?_) D13_63 rfl rfl (any_of HT_.out (by kernel_rfl)) (fun _ _ _ h => h) (Or.inl ⟨by rfl, ?_⟩) ?_ ?_
               rotate_left
               ·intro w'
                go_simp
                with_reducible rfl
               rotate_left
               ·simp only [Act.put, sS_, sZ_, sC_, i64_w, i32_w]
                rfl
               refine pure_ (i := 13) (N := some 42) (v := ?_) (a' := ?_) D14_63 rfl rfl (any_of HT_.out (by kernel_rfl)) (fun _ _ _ h => h) (Or.inl ⟨by rfl, ?_⟩) ?_ ?_
               rotate_left
               ·intro w'
                go_simp
                with_reducible rfl
               rotate_left
               ·simp only [Act.put, sS_, sZ_, sC_, i64_w, i32_w]
                rfl
               refine pure_ (i := 14) (N := some 43) (v := ?_) (a' := ?_) D15_63 rfl rfl (any_of HT_.out (by kernel_rfl)) (fun _ _ _ h => h) (Or.inl ⟨by rfl, ?_⟩) ?_ ?_
               rotate_left
               ·intro w'
                go_simp
                with_reducible rfl
               rotate_left
               ·simp only [Act.put, sS_, sZ_, sC_, i64_w, i32_w]
                rfl
               refine pure_ (i := 15) (N := some 44) (v := ?_) (a' := ?_) D16_63 rfl rfl (any_of HT_.out (by kernel_rfl)) (fun _ _ _ h => h) (Or.inl ⟨by rfl, ?_⟩) ?_ ?_
               rotate_left
               ·intro w'
                go_simp
                with_reducible rfl
               rotate_left
               ·simp only [Act.put, sS_, sZ_, sC_, i64_w, i32_w]
                rfl
               refine take_ (i := 16) (N := some 45) (v := ?_) (a' := ?_) D17_63 rfl rfl (take_ofW HT_.out HW_.out (by kernel_rfl)) (fun _ _ _ h => h) (Or.inl ⟨by rfl, ?_⟩) hHeld ?_ ?_
               rotate_left
               ·rintro w' ⟨s0, s1, s2, s3, s4, s5, s6, s7⟩
                go_simp
                with_reducible rfl
               rotate_left
               ·simp only [Act.put, sS_, sZ_, sC_, i64_w, i32_w]
                rfl
               refine pure_ (i := 17) (N := some 46) (v := ?_) (a' := ?_) D18_63 rfl rfl (any_of HT_.out (by kernel_rfl)) (fun _ _ _ h => h) (Or.inl ⟨by rfl, ?_⟩) ?_ ?_
               rotate_left
               ·intro w'
                go_simp
                with_reducible rfl
               rotate_left
               ·simp only [Act.put, sS_, sZ_, sC_, i64_w, i32_w]
                rfl
               refine one_ (i := 18) (N := some 47) D19_63 rfl rfl (one_of HT_.out (by kernel_rfl)) (by decide) (fun K hK => ?_)
               refine goes_ Try.func131 (by kernel_rfl) rfl #[.slice (some ad216) y220.length c1, .func (.func 114) #[.agg #[.int .i64 ((rd_T76 l1 x24_2).f0), .int .i64 ((rd_T76 l1 x24_2).f1), .int .i64 ((rd_T76 l1 x24_2).f2), .int .i64 ((rd_T76 l1 x24_2).f3)]] #[]] (by rfl) rfl rfl (by (try simp only [List.map_toArray, List.map_cons, List.map_nil]); first | done | rfl | (simp only [List.length_drop, List.length_take]; rfl)) ?_
               with_reducible refine (impl_Hole_131__impl_Hole_meets.calls _ _ y220 ((rd_T76 l1 x24_2).f0) ((rd_T76 l1 x24_2).f1) ((rd_T76 l1 x24_2).f2) ((rd_T76 l1 x24_2).f3) false _ ?side1 ?side2 A35.out).mono ?_
               (case side1 => repeat (first | exact (Kd.C_below HR223.out HB.out) | (with_reducible refine Kd.C_alloc ?_ _) | (with_reducible refine Kd.C_drewN ?_ _) | (with_reducible refine Kd.C_drew ?_)))
               (case side2 => exact HC223.out)
               rintro e w52 ⟨rfl, hb⟩
               refine ⟨_, rfl, ?_⟩
               have n0_ := Aside0.mk (blk_below (g := gb213) (o := .cells #[.int .i64 a0_0, .int .i64 a0_1, .slice A0_2 l0_2.length c0_2] 26 (0, 0)) (by (with_reducible repeat (first | refine blk_drewN ?_ _ | refine blk_drew ?_ | refine blk_alloc ?_ _)); exact BK213.out) hb)
               have n1_ := Aside0.mk (blk_below (g := gb217) (o := .cells #[.int .i64 ((rd_T76 l1 x24_2).f0), .int .i64 ((rd_T76 l1 x24_2).f1), .int .i64 ((rd_T76 l1 x24_2).f2), .int .i64 ((rd_T76 l1 x24_2).f3)] 76 (0, 0)) (by (with_reducible repeat (first | refine blk_drewN ?_ _ | refine blk_drew ?_ | refine blk_alloc ?_ _)); exact BK217.out) hb)
               have n2_ := Aside0.mk (below_step (by repeat (first | (with_reducible first | exact HB.out | apply below_alloc | apply pw_below_drewN | apply below_drew1 | refine below_set ?_ GE213.out | refine below_set ?_ GE217.out) | exact HB.out)) hb)
               clear BK213
               clear BK217
               clear HB
               have BK213 := n0_
               have BK217 := n1_
               have HB := n2_
               clear n0_ n1_ n2_
               (try clear hb)
               (try clear hb2)
               (try clear hk)
               (try clear hi)
               refine hK.out _ _ ⟨(blk_cell BK217.out 0).trans rfl, (blk_cell BK217.out 1).trans rfl, (blk_cell BK217.out 2).trans rfl, (blk_cell BK217.out 3).trans rfl, ((HB.out.cell (World.block_lt_of_cell? w _ hw218_0)).trans hw218_0), ((HB.out.cell (World.block_lt_of_cell? w _ hw218_1)).trans hw218_1), ((HB.out.cell (World.block_lt_of_cell? w _ hw218_2)).trans hw218_2), ((HB.out.cell (World.block_lt_of_cell? w _ hw218_3)).trans hw218_3)⟩ (fun hHeld => ?_)
               clear hK K
               refine norm_ (a' := ?_) ?_ ?_
               rotate_left
               ·show Act.put _ (some 47) _ = _
                simp only [Act.put, sS_, sZ_, sC_, i64_w, i32_w]
                rfl
               refine pure_ (i := 19) (N := some 48) (v := ?_) (a' := ?_) D20_63 rfl rfl (any_of HT_.out (by kernel_rfl)) (fun _ _ _ h => h) (Or.inl ⟨by rfl, ?_⟩) ?_ ?_
               rotate_left
               ·intro w'
                go_simp
                with_reducible rfl
               rotate_left
               ·simp only [Act.put, sS_, sZ_, sC_, i64_w, i32_w]
                rfl
               refine done_ (done_of HT_.out (by kernel_rfl)) ?_
               try go_wp2
               go_roundg k2
               case measure => have := HJ2.out; have := HK2.out; omega
               case rel => exact ⟨(wrap64 (x24_2 + 1)), (by first | rfl | (simp; done) | (simp [*]; done)), H', ⟨by have := HJ2.out; have := HK2.out; omega⟩, ⟨by (with_reducible repeat (first | refine blk_drewN ?_ _ | refine blk_drew ?_ | refine blk_alloc ?_ _)); exact BK213.out⟩, ⟨by repeat (first | (with_reducible first | exact HB.out | apply below_alloc | apply pw_below_drewN | apply below_drew1 | refine below_set ?_ GE213.out | refine below_set ?_ GE217.out) | exact HB.out)⟩⟩
             ·rw [if_neg c34] at H
              exact absurd H (by simp)
           ·rw [if_neg c24] at H
            exact absurd H (by simp)
          ·rw [if_neg c23] at H
           exact absurd H (by simp)
         ·rw [if_neg c21] at H
          have c21b0 : decide (0 < x24_2) = false := decide_eq_false c21
          clear c21
          have c53b0 := eq_true (of_decide_eq_true (by first | (with_reducible assumption) | assumption) : 0 ≤ x24_2)
          by_cases c54 : x24_2 ≤ (l1.length : Int)
          ·rw [if_pos c54] at H
           have c54b0 := eq_true c54
           have c54b1 : decide (x24_2 ≤ (l1.length : Int)) = true := decide_eq_true c54
           clear c54
           obtain ⟨y225, hy225⟩ : ∃ y_ : List (S76), y_ = (l1.take (x24_2 : Int).toNat) := ⟨_, rfl⟩
           replace H : ((impl_Hole_131__impl_Hole_meets.f y225 ((rd_T76 l1 x24_2).f0) ((rd_T76 l1 x24_2).f1) ((rd_T76 l1 x24_2).f2) ((rd_T76 l1 x24_2).f3)).bind fun t229 => (if t229 = true then (some false) else (impl_AreHoles.l0 k2 l1 l1 (l1.length : Int) (wrap64 (x24_2 + 1))))) = some r := by first | (rw [hy225]; with_reducible exact H) | (have H2_ := (Option.bind_some _ _).symm.trans H; rw [hy225]; with_reducible exact H2_) | (have H2_ := (Option.bind_some _ _).symm.trans H; with_reducible exact H2_) | with_reducible exact H | (rw [hy225]; exact H) | exact H
           have Ny225 := Aside0.mk hy225
           clear hy225
           replace H := Option.bind_eq_some_iff.mp H
           obtain ⟨t229, A550, H⟩ := H
           have A55 := Aside0.mk A550
           clear A550
           by_cases c56 : t229 = true
           ·subst c56
            rw [if_pos rfl] at H
            obtain rfl := Option.some.inj H
            have p216 : 0 ≤ (x24_2 : Int) := of_decide_eq_true (by first | (with_reducible assumption) | assumption)
            have q216 : x24_2 < (l1.length : Int) := of_decide_eq_true (by first | (with_reducible assumption) | assumption)
            obtain ⟨ad216, e216, hx216_0, hx216_1, hx216_2, hx216_3⟩ := at_T76 HR1.out x24_2 p216 q216
            cases e216
            replace hx216_0 := (HB.out.cell (World.block_lt_of_cell? w _ hx216_0)).trans hx216_0
            replace hx216_1 := (HB.out.cell (World.block_lt_of_cell? w _ hx216_1)).trans hx216_1
            replace hx216_2 := (HB.out.cell (World.block_lt_of_cell? w _ hx216_2)).trans hx216_2
            replace hx216_3 := (HB.out.cell (World.block_lt_of_cell? w _ hx216_3)).trans hx216_3
            replace p216 := eq_true p216
            replace q216 := eq_true q216
            try go_wp2_with (first | ((with_reducible refine gate_dst (N := 6) rfl ?_); (try (refine gate_guard (by rfl) ?_; dsimp only)); refine box_event ?hg (N := 6) ?hd (cs := #[.int .i64 0, .int .i64 0, .int .i64 0, .int .i64 0]) (t := 76) ?hr ?_; (case hd => rfl); (case hg => rfl); (case hr => first | (go_simp; done) | (go_simp; rfl)); intro gb217 hg w57 hbox hb; have n0_ := Aside0.mk (blk_below (g := gb213) (o := .cells #[.int .i64 a0_0, .int .i64 a0_1, .slice A0_2 l0_2.length c0_2] 26 (0, 0)) (by (with_reducible repeat (first | refine blk_drewN ?_ _ | refine blk_drew ?_ | refine blk_alloc ?_ _)); exact BK213.out) hb); have n1_ := Aside0.mk (below_step (by repeat (first | (with_reducible first | exact HB.out | apply below_alloc | apply pw_below_drewN | apply below_drew1 | refine below_set ?_ GE213.out) | exact HB.out)) hb); have n2_ := Aside0.mk (hbox); have n3_ := Aside0.mk ((by rw [hg]; exact (below_size (by repeat (first | (with_reducible first | exact HB.out | apply below_alloc | apply pw_below_drewN | apply below_drew1 | refine below_set ?_ GE213.out) | exact HB.out))) : w.heap.size ≤ gb217)); have n4_ := Aside0.mk ((by rw [hg]; exact (below_size (by repeat (first | (with_reducible first | exact HB.out | apply below_alloc | apply pw_below_drewN | apply below_drew1 | refine below_set ?_ GE213.out) | exact HB.out))) : w.heap.size ≤ gb217)); have n5_ := Aside0.mk ((by rw [hg]; exact Nat.ne_of_lt (blk_lt (g := gb213) (o := .cells #[.int .i64 a0_0, .int .i64 a0_1, .slice A0_2 l0_2.length c0_2] 26 (0, 0)) (by (with_reducible repeat (first | refine blk_drewN ?_ _ | refine blk_drew ?_ | refine blk_alloc ?_ _)); exact BK213.out)) : gb213 ≠ gb217)); have n6_ := Aside0.mk ((by rw [hg]; exact Nat.ne_of_gt (blk_lt (g := gb213) (o := .cells #[.int .i64 a0_0, .int .i64 a0_1, .slice A0_2 l0_2.length c0_2] 26 (0, 0)) (by (with_reducible repeat (first | refine blk_drewN ?_ _ | refine blk_drew ?_ | refine blk_alloc ?_ _)); exact BK213.out)) : gb217 ≠ gb213)); clear BK213; clear HB; have BK213 := n0_; have HB := n1_; have BK217 := n2_; have GW217 := n3_; have GE217 := n4_; have NB213_217 := n5_; have NB217_213 := n6_; clear n0_ n1_ n2_ n3_ n4_ n5_ n6_; clear hb hbox hg; have hnb58 := NB217_213.out; have hnc58 := NB213_217.out; have hcz59_0 : w57.cell? ⟨gb217, 0, none⟩ = some (.int .i64 0) := (blk_cell BK217.out 0).trans rfl; have hcz59_1 : w57.cell? ⟨gb217, 1, none⟩ = some (.int .i64 0) := (blk_cell BK217.out 1).trans rfl; have hcz59_2 : w57.cell? ⟨gb217, 2, none⟩ = some (.int .i64 0) := (blk_cell BK217.out 2).trans rfl; have hcz59_3 : w57.cell? ⟨gb217, 3, none⟩ = some (.int .i64 0) := (blk_cell BK217.out 3).trans rfl; have hfz59_0 := blk_frozen BK217.out 0; have hfz59_1 := blk_frozen BK217.out 1; have hfz59_2 := blk_frozen BK217.out 2; have hfz59_3 := blk_frozen BK217.out 3))
            have n0_ : Aside0 (((((w57.setCell ⟨gb217, 0, none⟩ (.int .i64 ((rd_T76 l1 x24_2).f0))).setCell ⟨gb217, 1, none⟩ (.int .i64 ((rd_T76 l1 x24_2).f1))).setCell ⟨gb217, 2, none⟩ (.int .i64 ((rd_T76 l1 x24_2).f2))).setCell ⟨gb217, 3, none⟩ (.int .i64 ((rd_T76 l1 x24_2).f3))).heap[gb213]? = some (.cells #[.int .i64 a0_0, .int .i64 a0_1, .slice A0_2 l0_2.length c0_2] 26 (0, 0))) := ⟨by (with_reducible repeat (first | refine blk_drewN ?_ _ | refine blk_drew ?_ | refine blk_alloc ?_ _)); refine blk_far ?_ NB213_217.out _; (with_reducible repeat (first | refine blk_drewN ?_ _ | refine blk_drew ?_ | refine blk_alloc ?_ _)); refine blk_far ?_ NB213_217.out _; (with_reducible repeat (first | refine blk_drewN ?_ _ | refine blk_drew ?_ | refine blk_alloc ?_ _)); refine blk_far ?_ NB213_217.out _; (with_reducible repeat (first | refine blk_drewN ?_ _ | refine blk_drew ?_ | refine blk_alloc ?_ _)); refine blk_far ?_ NB213_217.out _; (with_reducible repeat (first | refine blk_drewN ?_ _ | refine blk_drew ?_ | refine blk_alloc ?_ _)); exact BK213.out⟩
            have n1_ : Aside0 (((((w57.setCell ⟨gb217, 0, none⟩ (.int .i64 ((rd_T76 l1 x24_2).f0))).setCell ⟨gb217, 1, none⟩ (.int .i64 ((rd_T76 l1 x24_2).f1))).setCell ⟨gb217, 2, none⟩ (.int .i64 ((rd_T76 l1 x24_2).f2))).setCell ⟨gb217, 3, none⟩ (.int .i64 ((rd_T76 l1 x24_2).f3))).heap[gb217]? = some (.cells #[.int .i64 ((rd_T76 l1 x24_2).f0), .int .i64 ((rd_T76 l1 x24_2).f1), .int .i64 ((rd_T76 l1 x24_2).f2), .int .i64 ((rd_T76 l1 x24_2).f3)] 76 (0, 0))) := ⟨by (with_reducible repeat (first | refine blk_drewN ?_ _ | refine blk_drew ?_ | refine blk_alloc ?_ _)); refine blk_put (cs := #[.int .i64 ((rd_T76 l1 x24_2).f0), .int .i64 ((rd_T76 l1 x24_2).f1), .int .i64 ((rd_T76 l1 x24_2).f2), .int .i64 0]) ?_ 3 _ rfl; (with_reducible repeat (first | refine blk_drewN ?_ _ | refine blk_drew ?_ | refine blk_alloc ?_ _)); refine blk_put (cs := #[.int .i64 ((rd_T76 l1 x24_2).f0), .int .i64 ((rd_T76 l1 x24_2).f1), .int .i64 0, .int .i64 0]) ?_ 2 _ rfl; (with_reducible repeat (first | refine blk_drewN ?_ _ | refine blk_drew ?_ | refine blk_alloc ?_ _)); refine blk_put (cs := #[.int .i64 ((rd_T76 l1 x24_2).f0), .int .i64 0, .int .i64 0, .int .i64 0]) ?_ 1 _ rfl; (with_reducible repeat (first | refine blk_drewN ?_ _ | refine blk_drew ?_ | refine blk_alloc ?_ _)); refine blk_put (cs := #[.int .i64 0, .int .i64 0, .int .i64 0, .int .i64 0]) ?_ 0 _ rfl; (with_reducible repeat (first | refine blk_drewN ?_ _ | refine blk_drew ?_ | refine blk_alloc ?_ _)); exact BK217.out⟩
            have n2_ : Aside0 (Below w.heap.size w ((((w57.setCell ⟨gb217, 0, none⟩ (.int .i64 ((rd_T76 l1 x24_2).f0))).setCell ⟨gb217, 1, none⟩ (.int .i64 ((rd_T76 l1 x24_2).f1))).setCell ⟨gb217, 2, none⟩ (.int .i64 ((rd_T76 l1 x24_2).f2))).setCell ⟨gb217, 3, none⟩ (.int .i64 ((rd_T76 l1 x24_2).f3)))) := ⟨by repeat (first | (with_reducible first | exact HB.out | apply below_alloc | apply pw_below_drewN | apply below_drew1 | refine below_set ?_ GE213.out | refine below_set ?_ GE217.out) | exact HB.out)⟩
            (try clear BK213)
            (try clear BK217)
            (try clear HB)
            generalize ((((w57.setCell ⟨gb217, 0, none⟩ (.int .i64 ((rd_T76 l1 x24_2).f0))).setCell ⟨gb217, 1, none⟩ (.int .i64 ((rd_T76 l1 x24_2).f1))).setCell ⟨gb217, 2, none⟩ (.int .i64 ((rd_T76 l1 x24_2).f2))).setCell ⟨gb217, 3, none⟩ (.int .i64 ((rd_T76 l1 x24_2).f3))) = w60 at n0_ n1_ n2_ ⊢
            have BK213 := n0_
            have BK217 := n1_
            have HB := n2_
            clear n0_ n1_ n2_
            have n0_ := Aside0.mk (blk_drew BK213.out)
            have n1_ := Aside0.mk (blk_drew BK217.out)
            have n2_ := Aside0.mk (below_drew1 HB.out)
            clear BK213
            clear BK217
            clear HB
            have BK213 := n0_
            have BK217 := n1_
            have HB := n2_
            clear n0_ n1_ n2_
            have q62 : (x24_2 : Int) ≤ ((l1.length : Int) : Int) := of_decide_eq_true (by first | (with_reducible assumption) | assumption)
            obtain ⟨i062, hi062, _, hsz62, _⟩ := info_parts info76
            have hroom62 : l1.length ≤ c1 := HC1.out
            have hC62 : Kd.C k76 _ (some ad216) l1.length l1 := HR1.out
            have hcut62 := cut_to (P := Try.prog) 65 76 .i64 Try.underlying65 hi062 (some ad216) l1.length c1 x24_2 (of_decide_eq_true (by first | (with_reducible assumption) | assumption)) q62 hroom62
            have hr62 := Kd.C_take (m := (x24_2 : Int).toNat) hC62 (by omega)
            have hy62 : y225.length = (x24_2 : Int).toNat := (by rw [Ny225.out, List.length_take]; omega)
            rw [← Ny225.out] at hr62
            rw [← hy62] at hcut62
            have HR228 := Aside0.mk hr62
            have HC228 := Aside0.mk (show y225.length ≤ c1 from by omega)
            clear hr62 hC62 hroom62 hi062 hsz62
            have KY62 := Aside0.mk hy62
            clear hy62
            replace q62 := eq_true q62
            refine start_ (n := 20) (S := fun w' => w'.cell? ⟨gb217, 0, none⟩ = some (.int .i64 ((rd_T76 l1 x24_2).f0)) ∧ w'.cell? ⟨gb217, 1, none⟩ = some (.int .i64 ((rd_T76 l1 x24_2).f1)) ∧ w'.cell? ⟨gb217, 2, none⟩ = some (.int .i64 ((rd_T76 l1 x24_2).f2)) ∧ w'.cell? ⟨gb217, 3, none⟩ = some (.int .i64 ((rd_T76 l1 x24_2).f3))) (ds := []) D0_63 (by kernel_rfl) rfl rfl ⟨(blk_cell BK217.out 0).trans rfl, (blk_cell BK217.out 1).trans rfl, (blk_cell BK217.out 2).trans rfl, (blk_cell BK217.out 3).trans rfl⟩ (fun hHeld => ?_); refine with_tabW impl_AreHoles.tab6 impl_AreHoles.bits6 (fun HT_ HW_ => ?_)
            generalize w60.drew = w61 at BK213 BK217 HB HR228 hHeld ⊢
            refine pure_ (i := 0) (N := some 29) (v := ?_) (a' := ?_) D1_63 rfl rfl (any_of HT_.out (by kernel_rfl)) (fun _ _ _ h => h) (Or.inl ⟨by rfl, ?_⟩) ?_ ?_
            rotate_left
            ·intro w'
             go_simp
             with_reducible rfl
            rotate_left
            ·simp only [Act.put, sS_, sZ_, sC_, i64_w, i32_w]
             rfl
            refine pure_ (i := 1) (N := some 30) (v := ?_) (a' := ?_) D2_63 rfl rfl (any_of HT_.out (by kernel_rfl)) (fun _ _ _ h => h) (Or.inl ⟨by rfl, ?_⟩) ?_ ?_
            rotate_left
            ·intro w'
             go_simp
             with_reducible rfl
            rotate_left
            ·simp only [Act.put, sS_, sZ_, sC_, i64_w, i32_w]
             rfl
            refine pure_ (i := 2) (N := some 31) (v := ?_) (a' := ?_) D3_63 rfl rfl (any_of HT_.out (by kernel_rfl)) (fun _ _ _ h => h) (Or.inl ⟨by rfl, ?_⟩) ?_ ?_
            rotate_left
            ·intro w'
             go_simp
             with_reducible rfl
            rotate_left
            ·simp only [Act.put, sS_, sZ_, sC_, i64_w, i32_w]
             rfl
            refine pure_ (i := 3) (N := some 32) (v := undef) (a' := ?_) D4_63 rfl rfl (any_of HT_.out (by kernel_rfl)) (fun _ _ _ h => h) (Or.inr ⟨by rfl, rfl⟩) ?_ ?_
            rotate_left
            ·simp only [Act.put, sS_, sZ_, sC_, i64_w, i32_w]
             rfl
            refine pure_ (i := 4) (N := some 33) (v := undef) (a' := ?_) D5_63 rfl rfl (any_of HT_.out (by kernel_rfl)) (fun _ _ _ h => h) (Or.inr ⟨by rfl, rfl⟩) ?_ ?_
            rotate_left
            ·simp only [Act.put, sS_, sZ_, sC_, i64_w, i32_w]
             rfl
            refine pure_ (i := 5) (N := some 34) (v := undef) (a' := ?_) D6_63 rfl rfl (any_of HT_.out (by kernel_rfl)) (fun _ _ _ h => h) (Or.inr ⟨by rfl, rfl⟩) ?_ ?_
            rotate_left
            ·simp only [Act.put, sS_, sZ_, sC_, i64_w, i32_w]
             rfl
            refine pure_ (i := 6) (N := some 35) (v := undef) (a' := ?_) D7_63 rfl rfl (any_of HT_.out (by kernel_rfl)) (fun _ _ _ h => h) (Or.inr ⟨by rfl, rfl⟩) ?_ ?_
            rotate_left
            ·simp only [Act.put, sS_, sZ_, sC_, i64_w, i32_w]
             rfl
            refine pure_ (i := 7) (N := some 36) (v := undef) (a' := ?_) D8_63 rfl rfl (any_of HT_.out (by kernel_rfl)) (fun _ _ _ h => h) (Or.inr ⟨by rfl, rfl⟩) ?_ ?_
            rotate_left
            ·simp only [Act.put, sS_, sZ_, sC_, i64_w, i32_w]
             rfl
            refine pure_ (i := 8) (N := some 37) (v := undef) (a' := ?_) D9_63 rfl rfl (any_of HT_.out (by kernel_rfl)) (fun _ _ _ h => h) (Or.inr ⟨by rfl, rfl⟩) ?_ ?_
            rotate_left
            ·simp only [Act.put, sS_, sZ_, sC_, i64_w, i32_w]
             rfl
            refine pure_ (i := 9) (N := some 38) (v := undef) (a' := ?_) D10_63 rfl rfl (any_of HT_.out (by kernel_rfl)) (fun _ _ _ h => h) (Or.inr ⟨by rfl, rfl⟩) ?_ ?_
            rotate_left
            ·simp only [Act.put, sS_, sZ_, sC_, i64_w, i32_w]
             rfl
            refine pure_ (i := 10) (N := some 39) (v := undef) (a' := ?_) D11_63 rfl rfl (any_of HT_.out (by kernel_rfl)) (fun _ _ _ h => h) (Or.inr ⟨by rfl, rfl⟩) ?_ ?_
            rotate_left
            ·simp only [Act.put, sS_, sZ_, sC_, i64_w, i32_w]
             rfl
            refine pure_ (i := 11) (N := some 40) (v := ?_) (a' := ?_) D12_63 rfl rfl (any_of HT_.out (by kernel_rfl)) (fun _ _ _ h => h) (Or.inl ⟨by rfl, ?_⟩) ?_ ?_
            rotate_left
            ·intro w'
             go_simp
             with_reducible rfl
            rotate_left
            ·simp only [Act.put, sS_, sZ_, sC_, i64_w, i32_w]
             rfl
            refine pure_ (i := 12) (N := some 41) (v := ?_) (a' := ?_) D13_63 rfl rfl (any_of HT_.out (by kernel_rfl)) (fun _ _ _ h => h) (Or.inl ⟨by rfl, ?_⟩) ?_ ?_
            rotate_left
            ·intro w'
             go_simp
             with_reducible rfl
            rotate_left
            ·simp only [Act.put, sS_, sZ_, sC_, i64_w, i32_w]
             rfl
            refine pure_ (i := 13) (N := some 42) (v := ?_) (a' := ?_) D14_63 rfl rfl (any_of HT_.out (by kernel_rfl)) (fun _ _ _ h => h) (Or.inl ⟨by rfl, ?_⟩) ?_ ?_
            rotate_left
            ·intro w'
             go_simp
             with_reducible rfl
            rotate_left
            ·simp only [Act.put, sS_, sZ_, sC_, i64_w, i32_w]
             rfl
            refine pure_ (i := 14) (N := some 43) (v := ?_) (a' := ?_) D15_63 rfl rfl (any_of HT_.out (by kernel_rfl)) (fun _ _ _ h => h) (Or.inl ⟨by rfl, ?_⟩) ?_ ?_
            rotate_left
            ·intro w'
             go_simp
             with_reducible rfl
            rotate_left
            ·simp only [Act.put, sS_, sZ_, sC_, i64_w, i32_w]
             rfl
            refine pure_ (i := 15) (N := some 44) (v := ?_) (a' := ?_) D16_63 rfl rfl (any_of HT_.out (by kernel_rfl)) (fun _ _ _ h => h) (Or.inl ⟨by rfl, ?_⟩) ?_ ?_
            rotate_left
            ·intro w'
             go_simp
             with_reducible rfl
            rotate_left
            ·simp only [Act.put, sS_, sZ_, sC_, i64_w, i32_w]
             rfl
            refine take_ (i := 16) (N := some 45) (v := ?_) (a' := ?_) D17_63 rfl rfl (take_ofW HT_.out HW_.out (by kernel_rfl)) (fun _ _ _ h => h) (Or.inl ⟨by rfl, ?_⟩) hHeld ?_ ?_
            rotate_left
            ·rintro w' ⟨s0, s1, s2, s3⟩
             go_simp
             with_reducible rfl
            rotate_left
            ·simp only [Act.put, sS_, sZ_, sC_, i64_w, i32_w]
             rfl
            refine pure_ (i := 17) (N := some 46) (v := ?_) (a' := ?_) D18_63 rfl rfl (any_of HT_.out (by kernel_rfl)) (fun _ _ _ h => h) (Or.inl ⟨by rfl, ?_⟩) ?_ ?_
            rotate_left
            ·intro w'
             go_simp
             with_reducible rfl
            rotate_left
            ·simp only [Act.put, sS_, sZ_, sC_, i64_w, i32_w]
             rfl
            refine one_ (i := 18) (N := some 47) D19_63 rfl rfl (one_of HT_.out (by kernel_rfl)) (by decide) (fun K hK => ?_)
            refine goes_ Try.func131 (by kernel_rfl) rfl #[.slice (some ad216) y225.length c1, .func (.func 114) #[.agg #[.int .i64 ((rd_T76 l1 x24_2).f0), .int .i64 ((rd_T76 l1 x24_2).f1), .int .i64 ((rd_T76 l1 x24_2).f2), .int .i64 ((rd_T76 l1 x24_2).f3)]] #[]] (by rfl) rfl rfl (by (try simp only [List.map_toArray, List.map_cons, List.map_nil]); first | done | rfl | (simp only [List.length_drop, List.length_take]; rfl)) ?_
            with_reducible refine (impl_Hole_131__impl_Hole_meets.calls _ _ y225 ((rd_T76 l1 x24_2).f0) ((rd_T76 l1 x24_2).f1) ((rd_T76 l1 x24_2).f2) ((rd_T76 l1 x24_2).f3) true _ ?side1 ?side2 A55.out).mono ?_
            (case side1 => repeat (first | exact (Kd.C_below HR228.out HB.out) | (with_reducible refine Kd.C_alloc ?_ _) | (with_reducible refine Kd.C_drewN ?_ _) | (with_reducible refine Kd.C_drew ?_)))
            (case side2 => exact HC228.out)
            rintro e w63 ⟨rfl, hb⟩
            refine ⟨_, rfl, ?_⟩
            have n0_ := Aside0.mk (blk_below (g := gb213) (o := .cells #[.int .i64 a0_0, .int .i64 a0_1, .slice A0_2 l0_2.length c0_2] 26 (0, 0)) (by (with_reducible repeat (first | refine blk_drewN ?_ _ | refine blk_drew ?_ | refine blk_alloc ?_ _)); exact BK213.out) hb)
            have n1_ := Aside0.mk (blk_below (g := gb217) (o := .cells #[.int .i64 ((rd_T76 l1 x24_2).f0), .int .i64 ((rd_T76 l1 x24_2).f1), .int .i64 ((rd_T76 l1 x24_2).f2), .int .i64 ((rd_T76 l1 x24_2).f3)] 76 (0, 0)) (by (with_reducible repeat (first | refine blk_drewN ?_ _ | refine blk_drew ?_ | refine blk_alloc ?_ _)); exact BK217.out) hb)
            have n2_ := Aside0.mk (below_step (by repeat (first | (with_reducible first | exact HB.out | apply below_alloc | apply pw_below_drewN | apply below_drew1 | refine below_set ?_ GE213.out | refine below_set ?_ GE217.out) | exact HB.out)) hb)
            clear BK213
            clear BK217
            clear HB
            have BK213 := n0_
            have BK217 := n1_
            have HB := n2_
            clear n0_ n1_ n2_
            (try clear hb)
            (try clear hb2)
            (try clear hk)
            (try clear hi)
            refine hK.out _ _ ⟨(blk_cell BK217.out 0).trans rfl, (blk_cell BK217.out 1).trans rfl, (blk_cell BK217.out 2).trans rfl, (blk_cell BK217.out 3).trans rfl⟩ (fun hHeld => ?_)
            clear hK K
            refine norm_ (a' := ?_) ?_ ?_
            rotate_left
            ·show Act.put _ (some 47) _ = _
             simp only [Act.put, sS_, sZ_, sC_, i64_w, i32_w]
             rfl
            refine pure_ (i := 19) (N := some 48) (v := ?_) (a' := ?_) D20_63 rfl rfl (any_of HT_.out (by kernel_rfl)) (fun _ _ _ h => h) (Or.inl ⟨by rfl, ?_⟩) ?_ ?_
            rotate_left
            ·intro w'
             go_simp
             with_reducible rfl
            rotate_left
            ·simp only [Act.put, sS_, sZ_, sC_, i64_w, i32_w]
             rfl
            refine done_ (done_of HT_.out (by kernel_rfl)) ?_
            try go_wp2
            go_ret
            exact ⟨by first | rfl | (simp [errW_none, errW_some] <;> rfl) | (simp [*, errW_none, errW_some] <;> rfl) | (simp [wrap64]; done), by repeat (first | (with_reducible first | exact HB.out | apply below_alloc | apply pw_below_drewN | apply below_drew1 | refine below_set ?_ GE213.out | refine below_set ?_ GE217.out) | exact HB.out)⟩
           ·replace c56 := Bool.eq_false_iff.mpr c56
            subst c56
            rw [if_neg (show ¬ (false = true) by decide)] at H
            have H' := Aside0.mk H
            clear H
            have p216 : 0 ≤ (x24_2 : Int) := of_decide_eq_true (by first | (with_reducible assumption) | assumption)
            have q216 : x24_2 < (l1.length : Int) := of_decide_eq_true (by first | (with_reducible assumption) | assumption)
            obtain ⟨ad216, e216, hx216_0, hx216_1, hx216_2, hx216_3⟩ := at_T76 HR1.out x24_2 p216 q216
            cases e216
            replace hx216_0 := (HB.out.cell (World.block_lt_of_cell? w _ hx216_0)).trans hx216_0
            replace hx216_1 := (HB.out.cell (World.block_lt_of_cell? w _ hx216_1)).trans hx216_1
            replace hx216_2 := (HB.out.cell (World.block_lt_of_cell? w _ hx216_2)).trans hx216_2
            replace hx216_3 := (HB.out.cell (World.block_lt_of_cell? w _ hx216_3)).trans hx216_3
            replace p216 := eq_true p216
            replace q216 := eq_true q216
            try go_wp2_with (first | ((with_reducible refine gate_dst (N := 6) rfl ?_); (try (refine gate_guard (by rfl) ?_; dsimp only)); refine box_event ?hg (N := 6) ?hd (cs := #[.int .i64 0, .int .i64 0, .int .i64 0, .int .i64 0]) (t := 76) ?hr ?_; (case hd => rfl); (case hg => rfl); (case hr => first | (go_simp; done) | (go_simp; rfl)); intro gb217 hg w64 hbox hb; have n0_ := Aside0.mk (blk_below (g := gb213) (o := .cells #[.int .i64 a0_0, .int .i64 a0_1, .slice A0_2 l0_2.length c0_2] 26 (0, 0)) (by (with_reducible repeat (first | refine blk_drewN ?_ _ | refine blk_drew ?_ | refine blk_alloc ?_ _)); exact BK213.out) hb); have n1_ := Aside0.mk (below_step (by repeat (first | (with_reducible first | exact HB.out | apply below_alloc | apply pw_below_drewN | apply below_drew1 | refine below_set ?_ GE213.out) | exact HB.out)) hb); have n2_ := Aside0.mk (hbox); have n3_ := Aside0.mk ((by rw [hg]; exact (below_size (by repeat (first | (with_reducible first | exact HB.out | apply below_alloc | apply pw_below_drewN | apply below_drew1 | refine below_set ?_ GE213.out) | exact HB.out))) : w.heap.size ≤ gb217)); have n4_ := Aside0.mk ((by rw [hg]; exact (below_size (by repeat (first | (with_reducible first | exact HB.out | apply below_alloc | apply pw_below_drewN | apply below_drew1 | refine below_set ?_ GE213.out) | exact HB.out))) : w.heap.size ≤ gb217)); have n5_ := Aside0.mk ((by rw [hg]; exact Nat.ne_of_lt (blk_lt (g := gb213) (o := .cells #[.int .i64 a0_0, .int .i64 a0_1, .slice A0_2 l0_2.length c0_2] 26 (0, 0)) (by (with_reducible repeat (first | refine blk_drewN ?_ _ | refine blk_drew ?_ | refine blk_alloc ?_ _)); exact BK213.out)) : gb213 ≠ gb217)); have n6_ := Aside0.mk ((by rw [hg]; exact Nat.ne_of_gt (blk_lt (g := gb213) (o := .cells #[.int .i64 a0_0, .int .i64 a0_1, .slice A0_2 l0_2.length c0_2] 26 (0, 0)) (by (with_reducible repeat (first | refine blk_drewN ?_ _ | refine blk_drew ?_ | refine blk_alloc ?_ _)); exact BK213.out)) : gb217 ≠ gb213)); clear BK213; clear HB; have BK213 := n0_; have HB := n1_; have BK217 := n2_; have GW217 := n3_; have GE217 := n4_; have NB213_217 := n5_; have NB217_213 := n6_; clear n0_ n1_ n2_ n3_ n4_ n5_ n6_; clear hb hbox hg; have hnb65 := NB217_213.out; have hnc65 := NB213_217.out; have hcz66_0 : w64.cell? ⟨gb217, 0, none⟩ = some (.int .i64 0) := (blk_cell BK217.out 0).trans rfl; have hcz66_1 : w64.cell? ⟨gb217, 1, none⟩ = some (.int .i64 0) := (blk_cell BK217.out 1).trans rfl; have hcz66_2 : w64.cell? ⟨gb217, 2, none⟩ = some (.int .i64 0) := (blk_cell BK217.out 2).trans rfl; have hcz66_3 : w64.cell? ⟨gb217, 3, none⟩ = some (.int .i64 0) := (blk_cell BK217.out 3).trans rfl; have hfz66_0 := blk_frozen BK217.out 0; have hfz66_1 := blk_frozen BK217.out 1; have hfz66_2 := blk_frozen BK217.out 2; have hfz66_3 := blk_frozen BK217.out 3))
            have n0_ : Aside0 (((((w64.setCell ⟨gb217, 0, none⟩ (.int .i64 ((rd_T76 l1 x24_2).f0))).setCell ⟨gb217, 1, none⟩ (.int .i64 ((rd_T76 l1 x24_2).f1))).setCell ⟨gb217, 2, none⟩ (.int .i64 ((rd_T76 l1 x24_2).f2))).setCell ⟨gb217, 3, none⟩ (.int .i64 ((rd_T76 l1 x24_2).f3))).heap[gb213]? = some (.cells #[.int .i64 a0_0, .int .i64 a0_1, .slice A0_2 l0_2.length c0_2] 26 (0, 0))) := ⟨by (with_reducible repeat (first | refine blk_drewN ?_ _ | refine blk_drew ?_ | refine blk_alloc ?_ _)); refine blk_far ?_ NB213_217.out _; (with_reducible repeat (first | refine blk_drewN ?_ _ | refine blk_drew ?_ | refine blk_alloc ?_ _)); refine blk_far ?_ NB213_217.out _; (with_reducible repeat (first | refine blk_drewN ?_ _ | refine blk_drew ?_ | refine blk_alloc ?_ _)); refine blk_far ?_ NB213_217.out _; (with_reducible repeat (first | refine blk_drewN ?_ _ | refine blk_drew ?_ | refine blk_alloc ?_ _)); refine blk_far ?_ NB213_217.out _; (with_reducible repeat (first | refine blk_drewN ?_ _ | refine blk_drew ?_ | refine blk_alloc ?_ _)); exact BK213.out⟩
            have n1_ : Aside0 (((((w64.setCell ⟨gb217, 0, none⟩ (.int .i64 ((rd_T76 l1 x24_2).f0))).setCell ⟨gb217, 1, none⟩ (.int .i64 ((rd_T76 l1 x24_2).f1))).setCell ⟨gb217, 2, none⟩ (.int .i64 ((rd_T76 l1 x24_2).f2))).setCell ⟨gb217, 3, none⟩ (.int .i64 ((rd_T76 l1 x24_2).f3))).heap[gb217]? = some (.cells #[.int .i64 ((rd_T76 l1 x24_2).f0), .int .i64 ((rd_T76 l1 x24_2).f1), .int .i64 ((rd_T76 l1 x24_2).f2), .int .i64 ((rd_T76 l1 x24_2).f3)] 76 (0, 0))) := ⟨by (with_reducible repeat (first | refine blk_drewN ?_ _ | refine blk_drew ?_ | refine blk_alloc ?_ _)); refine blk_put (cs := #[.int .i64 ((rd_T76 l1 x24_2).f0), .int .i64 ((rd_T76 l1 x24_2).f1), .int .i64 ((rd_T76 l1 x24_2).f2), .int .i64 0]) ?_ 3 _ rfl; (with_reducible repeat (first | refine blk_drewN ?_ _ | refine blk_drew ?_ | refine blk_alloc ?_ _)); refine blk_put (cs := #[.int .i64 ((rd_T76 l1 x24_2).f0), .int .i64 ((rd_T76 l1 x24_2).f1), .int .i64 0, .int .i64 0]) ?_ 2 _ rfl; (with_reducible repeat (first | refine blk_drewN ?_ _ | refine blk_drew ?_ | refine blk_alloc ?_ _)); refine blk_put (cs := #[.int .i64 ((rd_T76 l1 x24_2).f0), .int .i64 0, .int .i64 0, .int .i64 0]) ?_ 1 _ rfl; (with_reducible repeat (first | refine blk_drewN ?_ _ | refine blk_drew ?_ | refine blk_alloc ?_ _)); refine blk_put (cs := #[.int .i64 0, .int .i64 0, .int .i64 0, .int .i64 0]) ?_ 0 _ rfl; (with_reducible repeat (first | refine blk_drewN ?_ _ | refine blk_drew ?_ | refine blk_alloc ?_ _)); exact BK217.out⟩
            have n2_ : Aside0 (Below w.heap.size w ((((w64.setCell ⟨gb217, 0, none⟩ (.int .i64 ((rd_T76 l1 x24_2).f0))).setCell ⟨gb217, 1, none⟩ (.int .i64 ((rd_T76 l1 x24_2).f1))).setCell ⟨gb217, 2, none⟩ (.int .i64 ((rd_T76 l1 x24_2).f2))).setCell ⟨gb217, 3, none⟩ (.int .i64 ((rd_T76 l1 x24_2).f3)))) := ⟨by repeat (first | (with_reducible first | exact HB.out | apply below_alloc | apply pw_below_drewN | apply below_drew1 | refine below_set ?_ GE213.out | refine below_set ?_ GE217.out) | exact HB.out)⟩
            (try clear BK213)
            (try clear BK217)
            (try clear HB)
            generalize ((((w64.setCell ⟨gb217, 0, none⟩ (.int .i64 ((rd_T76 l1 x24_2).f0))).setCell ⟨gb217, 1, none⟩ (.int .i64 ((rd_T76 l1 x24_2).f1))).setCell ⟨gb217, 2, none⟩ (.int .i64 ((rd_T76 l1 x24_2).f2))).setCell ⟨gb217, 3, none⟩ (.int .i64 ((rd_T76 l1 x24_2).f3))) = w67 at n0_ n1_ n2_ ⊢
            have BK213 := n0_
            have BK217 := n1_
            have HB := n2_
            clear n0_ n1_ n2_
            have n0_ := Aside0.mk (blk_drew BK213.out)
            have n1_ := Aside0.mk (blk_drew BK217.out)
            have n2_ := Aside0.mk (below_drew1 HB.out)
            clear BK213
            clear BK217
            clear HB
            have BK213 := n0_
            have BK217 := n1_
            have HB := n2_
            clear n0_ n1_ n2_
            have q69 : (x24_2 : Int) ≤ ((l1.length : Int) : Int) := of_decide_eq_true (by first | (with_reducible assumption) | assumption)
            obtain ⟨i069, hi069, _, hsz69, _⟩ := info_parts info76
            have hroom69 : l1.length ≤ c1 := HC1.out
            have hC69 : Kd.C k76 _ (some ad216) l1.length l1 := HR1.out
            have hcut69 := cut_to (P := Try.prog) 65 76 .i64 Try.underlying65 hi069 (some ad216) l1.length c1 x24_2 (of_decide_eq_true (by first | (with_reducible assumption) | assumption)) q69 hroom69
            have hr69 := Kd.C_take (m := (x24_2 : Int).toNat) hC69 (by omega)
            have hy69 : y225.length = (x24_2 : Int).toNat := (by rw [Ny225.out, List.length_take]; omega)
            rw [← Ny225.out] at hr69
            rw [← hy69] at hcut69
            have HR228 := Aside0.mk hr69
            have HC228 := Aside0.mk (show y225.length ≤ c1 from by omega)
            clear hr69 hC69 hroom69 hi069 hsz69
            have KY69 := Aside0.mk hy69
            clear hy69
            replace q69 := eq_true q69
            refine start_ (n := 20) (S := fun w' => w'.cell? ⟨gb217, 0, none⟩ = some (.int .i64 ((rd_T76 l1 x24_2).f0)) ∧ w'.cell? ⟨gb217, 1, none⟩ = some (.int .i64 ((rd_T76 l1 x24_2).f1)) ∧ w'.cell? ⟨gb217, 2, none⟩ = some (.int .i64 ((rd_T76 l1 x24_2).f2)) ∧ w'.cell? ⟨gb217, 3, none⟩ = some (.int .i64 ((rd_T76 l1 x24_2).f3))) (ds := []) D0_63 (by kernel_rfl) rfl rfl ⟨(blk_cell BK217.out 0).trans rfl, (blk_cell BK217.out 1).trans rfl, (blk_cell BK217.out 2).trans rfl, (blk_cell BK217.out 3).trans rfl⟩ (fun hHeld => ?_); refine with_tabW impl_AreHoles.tab6 impl_AreHoles.bits6 (fun HT_ HW_ => ?_)
            generalize w67.drew = w68 at BK213 BK217 HB HR228 hHeld ⊢
            refine pure_ (i := 0) (N := some 29) (v := ?_) (a' := ?_) D1_63 rfl rfl (any_of HT_.out (by kernel_rfl)) (fun _ _ _ h => h) (Or.inl ⟨by rfl, ?_⟩) ?_ ?_
            rotate_left
            ·intro w'
             go_simp
             with_reducible rfl
            rotate_left
            ·simp only [Act.put, sS_, sZ_, sC_, i64_w, i32_w]
             rfl
            refine pure_ (i := 1) (N := some 30) (v := ?_) (a' := ?_) D2_63 rfl rfl (any_of HT_.out (by kernel_rfl)) (fun _ _ _ h => h) (Or.inl ⟨by rfl, ?_⟩) ?_ ?_
            rotate_left
            ·intro w'
             go_simp
             with_reducible rfl
            rotate_left
            ·simp only [Act.put, sS_, sZ_, sC_, i64_w, i32_w]
             rfl
            refine pure_ (i := 2) (N := some 31) (v := ?_) (a' := ?_) D3_63 rfl rfl (any_of HT_.out (by kernel_rfl)) (fun _ _ _ h => h) (Or.inl ⟨by rfl, ?_⟩) ?_ ?_
            rotate_left
            ·intro w'
             go_simp
             with_reducible rfl
            rotate_left
            ·simp only [Act.put, sS_, sZ_, sC_, i64_w, i32_w]
             rfl
            refine pure_ (i := 3) (N := some 32) (v := undef) (a' := ?_) D4_63 rfl rfl (any_of HT_.out (by kernel_rfl)) (fun _ _ _ h => h) (Or.inr ⟨by rfl, rfl⟩) ?_ ?_
            rotate_left
            ·simp only [Act.put, sS_, sZ_, sC_, i64_w, i32_w]
             rfl
            refine pure_ (i := 4) (N := some 33) (v := undef) (a' := ?_) D5_63 rfl rfl (any_of HT_.out (by kernel_rfl)) (fun _ _ _ h => h) (Or.inr ⟨by rfl, rfl⟩) ?_ ?_
            rotate_left
            ·simp only [Act.put, sS_, sZ_, sC_, i64_w, i32_w]
             rfl
            refine pure_ (i := 5) (N := some 34) (v := undef) (a' := ?_) D6_63 rfl rfl (any_of HT_.out (by kernel_rfl)) (fun _ _ _ h => h) (Or.inr ⟨by rfl, rfl⟩) ?_ ?_
            rotate_left
            ·simp only [Act.put, sS_, sZ_, sC_, i64_w, i32_w]
             rfl
            refine pure_ (i := 6) (N := some 35) (v := undef) (a' := ?_) D7_63 rfl rfl (any_of HT_.out (by kernel_rfl)) (fun _ _ _ h => h) (Or.inr ⟨by rfl, rfl⟩) ?_ ?_
            rotate_left
            ·simp only [Act.put, sS_, sZ_, sC_, i64_w, i32_w]
             rfl
            refine pure_ (i := 7) (N := some 36) (v := undef) (a' := ?_) D8_63 rfl rfl (any_of HT_.out (by kernel_rfl)) (fun _ _ _ h => h) (Or.inr ⟨by rfl, rfl⟩) ?_ ?_
            rotate_left
            ·simp only [Act.put, sS_, sZ_, sC_, i64_w, i32_w]
             rfl
            refine pure_ (i := 8) (N := some 37) (v := undef) (a' := ?_) D9_63 rfl rfl (any_of HT_.out (by kernel_rfl)) (fun _ _ _ h => h) (Or.inr ⟨by rfl, rfl⟩) ?_ ?_
            rotate_left
            ·simp only [Act.put, sS_, sZ_, sC_, i64_w, i32_w]
             rfl
            refine pure_ (i := 9) (N := some 38) (v := undef) (a' := ?_) D10_63 rfl rfl (any_of HT_.out (by kernel_rfl)) (fun _ _ _ h => h) (Or.inr ⟨by rfl, rfl⟩) ?_ ?_
            rotate_left
            ·simp only [Act.put, sS_, sZ_, sC_, i64_w, i32_w]
             rfl
            refine pure_ (i := 10) (N := some 39) (v := undef) (a' := ?_) D11_63 rfl rfl (any_of HT_.out (by kernel_rfl)) (fun _ _ _ h => h) (Or.inr ⟨by rfl, rfl⟩) ?_ ?_
            rotate_left
            ·simp only [Act.put, sS_, sZ_, sC_, i64_w, i32_w]
             rfl
            refine pure_ (i := 11) (N := some 40) (v := ?_) (a' := ?_) D12_63 rfl rfl (any_of HT_.out (by kernel_rfl)) (fun _ _ _ h => h) (Or.inl ⟨by rfl, ?_⟩) ?_ ?_
            rotate_left
            ·intro w'
             go_simp
             with_reducible rfl
            rotate_left
            ·simp only [Act.put, sS_, sZ_, sC_, i64_w, i32_w]
             rfl
            refine pure_ (i := 12) (N := some 41) (v := ?_) (a' := ?_) D13_63 rfl rfl (any_of HT_.out (by kernel_rfl)) (fun _ _ _ h => h) (Or.inl ⟨by rfl, ?_⟩) ?_ ?_
            rotate_left
            ·intro w'
             go_simp
             with_reducible rfl
            rotate_left
            ·simp only [Act.put, sS_, sZ_, sC_, i64_w, i32_w]
             rfl
            refine pure_ (i := 13) (N := some 42) (v := ?_) (a' := ?_) D14_63 rfl rfl (any_of HT_.out (by kernel_rfl)) (fun _ _ _ h => h) (Or.inl ⟨by rfl, ?_⟩) ?_ ?_
            rotate_left
            ·intro w'
             go_simp
             with_reducible rfl
            rotate_left
            ·simp only [Act.put, sS_, sZ_, sC_, i64_w, i32_w]
             rfl
            refine pure_ (i := 14) (N := some 43) (v := ?_) (a' := ?_) D15_63 rfl rfl (any_of HT_.out (by kernel_rfl)) (fun _ _ _ h => h) (Or.inl ⟨by rfl, ?_⟩) ?_ ?_
            rotate_left
            ·intro w'
             go_simp
             with_reducible rfl
            rotate_left
            ·simp only [Act.put, sS_, sZ_, sC_, i64_w, i32_w]
             rfl
            refine pure_ (i := 15) (N := some 44) (v := ?_) (a' := ?_) D16_63 rfl rfl (any_of HT_.out (by kernel_rfl)) (fun _ _ _ h => h) (Or.inl ⟨by rfl, ?_⟩) ?_ ?_
            rotate_left
            ·intro w'
             go_simp
             with_reducible rfl
            rotate_left
            ·simp only [Act.put, sS_, sZ_, sC_, i64_w, i32_w]
             rfl
            refine take_ (i := 16) (N := some 45) (v := ?_) (a' := ?_) D17_63 rfl rfl (take_ofW HT_.out HW_.out (by kernel_rfl)) (fun _ _ _ h => h) (Or.inl ⟨by rfl, ?_⟩) hHeld ?_ ?_
            rotate_left
            ·rintro w' ⟨s0, s1, s2, s3⟩
             go_simp
             with_reducible rfl
            rotate_left
            ·simp only [Act.put, sS_, sZ_, sC_, i64_w, i32_w]
             rfl
            refine pure_ (i := 17) (N := some 46) (v := ?_) (a' := ?_) D18_63 rfl rfl (any_of HT_.out (by kernel_rfl)) (fun _ _ _ h => h) (Or.inl ⟨by rfl, ?_⟩) ?_ ?_
            rotate_left
            ·intro w'
             go_simp
             with_reducible rfl
            rotate_left
            ·simp only [Act.put, sS_, sZ_, sC_, i64_w, i32_w]
             rfl
            refine one_ (i := 18) (N := some 47) D19_63 rfl rfl (one_of HT_.out (by kernel_rfl)) (by decide) (fun K hK => ?_)
            refine goes_ Try.func131 (by kernel_rfl) rfl #[.slice (some ad216) y225.length c1, .func (.func 114) #[.agg #[.int .i64 ((rd_T76 l1 x24_2).f0), .int .i64 ((rd_T76 l1 x24_2).f1), .int .i64 ((rd_T76 l1 x24_2).f2), .int .i64 ((rd_T76 l1 x24_2).f3)]] #[]] (by rfl) rfl rfl (by (try simp only [List.map_toArray, List.map_cons, List.map_nil]); first | done | rfl | (simp only [List.length_drop, List.length_take]; rfl)) ?_
            with_reducible refine (impl_Hole_131__impl_Hole_meets.calls _ _ y225 ((rd_T76 l1 x24_2).f0) ((rd_T76 l1 x24_2).f1) ((rd_T76 l1 x24_2).f2) ((rd_T76 l1 x24_2).f3) false _ ?side1 ?side2 A55.out).mono ?_
            (case side1 => repeat (first | exact (Kd.C_below HR228.out HB.out) | (with_reducible refine Kd.C_alloc ?_ _) | (with_reducible refine Kd.C_drewN ?_ _) | (with_reducible refine Kd.C_drew ?_)))
            (case side2 => exact HC228.out)
            rintro e w70 ⟨rfl, hb⟩
            refine ⟨_, rfl, ?_⟩
            have n0_ := Aside0.mk (blk_below (g := gb213) (o := .cells #[.int .i64 a0_0, .int .i64 a0_1, .slice A0_2 l0_2.length c0_2] 26 (0, 0)) (by (with_reducible repeat (first | refine blk_drewN ?_ _ | refine blk_drew ?_ | refine blk_alloc ?_ _)); exact BK213.out) hb)
            have n1_ := Aside0.mk (blk_below (g := gb217) (o := .cells #[.int .i64 ((rd_T76 l1 x24_2).f0), .int .i64 ((rd_T76 l1 x24_2).f1), .int .i64 ((rd_T76 l1 x24_2).f2), .int .i64 ((rd_T76 l1 x24_2).f3)] 76 (0, 0)) (by (with_reducible repeat (first | refine blk_drewN ?_ _ | refine blk_drew ?_ | refine blk_alloc ?_ _)); exact BK217.out) hb)
            have n2_ := Aside0.mk (below_step (by repeat (first | (with_reducible first | exact HB.out | apply below_alloc | apply pw_below_drewN | apply below_drew1 | refine below_set ?_ GE213.out | refine below_set ?_ GE217.out) | exact HB.out)) hb)
            clear BK213
            clear BK217
            clear HB
            have BK213 := n0_
            have BK217 := n1_
            have HB := n2_
            clear n0_ n1_ n2_
            (try clear hb)
            (try clear hb2)
            (try clear hk)
            (try clear hi)
            refine hK.out _ _ ⟨(blk_cell BK217.out 0).trans rfl, (blk_cell BK217.out 1).trans rfl, (blk_cell BK217.out 2).trans rfl, (blk_cell BK217.out 3).trans rfl⟩ (fun hHeld => ?_)
            clear hK K
            refine norm_ (a' := ?_) ?_ ?_
            rotate_left
            ·show Act.put _ (some 47) _ = _
             simp only [Act.put, sS_, sZ_, sC_, i64_w, i32_w]
             rfl
            refine pure_ (i := 19) (N := some 48) (v := ?_) (a' := ?_) D20_63 rfl rfl (any_of HT_.out (by kernel_rfl)) (fun _ _ _ h => h) (Or.inl ⟨by rfl, ?_⟩) ?_ ?_
            rotate_left
            ·intro w'
             go_simp
             with_reducible rfl
            rotate_left
            ·simp only [Act.put, sS_, sZ_, sC_, i64_w, i32_w]
             rfl
            refine done_ (done_of HT_.out (by kernel_rfl)) ?_
            try go_wp2
            go_roundg k2
            case measure => have := HJ2.out; have := HK2.out; omega
            case rel => exact ⟨(wrap64 (x24_2 + 1)), (by first | rfl | (simp; done) | (simp [*]; done)), H', ⟨by have := HJ2.out; have := HK2.out; omega⟩, ⟨by (with_reducible repeat (first | refine blk_drewN ?_ _ | refine blk_drew ?_ | refine blk_alloc ?_ _)); exact BK213.out⟩, ⟨by repeat (first | (with_reducible first | exact HB.out | apply below_alloc | apply pw_below_drewN | apply below_drew1 | refine below_set ?_ GE213.out | refine below_set ?_ GE217.out) | exact HB.out)⟩⟩
          ·rw [if_neg c54] at H
           exact absurd H (by simp)
        ·rw [if_neg c20] at H
         exact absurd H (by simp)
       ·rw [if_neg c19] at H
        exact absurd H (by simp)
      ·rw [if_neg c18] at H
       have c18b0 : decide (x24_2 < (l1.length : Int)) = false := decide_eq_false c18
       clear c18
       obtain rfl := Option.some.inj H
       go_wp2
       go_ret
       exact ⟨by first | rfl | (simp [errW_none, errW_some] <;> rfl) | (simp [*, errW_none, errW_some] <;> rfl) | (simp [wrap64]; done), by repeat (first | (with_reducible first | exact HB.out | apply below_alloc | apply pw_below_drewN | apply below_drew1 | refine below_set ?_ GE213.out) | exact HB.out)⟩

end Go.Proofs.Ytkglpfdoefdhdaa.Q

namespace Go.Proofs.Ytkglpfdoefdhdaa.M
open Go.RowKit Go.Proofs.Ytkglpfdoefdhdaa.Q Go.Proofs.YtkglpfdoefdhdaaW.PrintWords Go.Proofs.YtkglpfdoefdhdaaW.PrintLast Go.Proofs.YtkglpfdoefdhdaaW.Pl Classical
set_option linter.unusedSimpArgs false
set_option linter.unusedVariables false

/-- cmp.Compare and cmp.Or of two. -/
def cmpI (a b : Int) : Int := if a < b then -1 else if a > b then 1 else 0
def orI (a b : Int) : Int := if a ≠ 0 then a else b
theorem cmp_f (a b : Int) : cmp_Compare_int.f a b = some (cmpI a b) := by
  unfold cmp_Compare_int.f cmp_isNaN_int.f cmpI
  rw [show (a != a) = false by simp, show (b != b) = false by simp]
  simp only [Option.bind_some, Bool.false_eq_true, if_false]
  repeat' split
  all_goals rfl
theorem or_f (a b : Int) : Ev (fun k => cmp_Or_int.f k [a, b]) (orI a b) := by
  have h2 : wrap64 1 = 1 := by unfold wrap64; omega
  have h3 : wrap64 2 = 2 := by unfold wrap64; omega
  have h0 : cmp_Or_int.f 4 [a, b] = some (orI a b) := by
    unfold cmp_Or_int.f orI
    by_cases h : a = 0
    · by_cases h' : b = 0
      · simp [cmp_Or_int.l0, rd, h2, h3, h, h']
      · simp [cmp_Or_int.l0, rd, h2, h3, h, h']
    · simp [cmp_Or_int.l0, rd, h2, h3, h]
  exact ⟨4, fun k hk => at_rounds (cmp_Or_int.mono [a, b]) hk h0⟩
theorem iComp (x y : S76) : Ev (fun k => impl_Hole_compare.f k x.f0 x.f1 x.f2 x.f3 y.f0 y.f1 y.f2 y.f3) (orI (cmpI x.f0 y.f0) (cmpI x.f1 y.f1)) := by
  unfold impl_Hole_compare.f
  simp only [cmp_f, Option.bind_some]
  exact Ev.bind (or_f _ _) (Ev.now _)
theorem comp_bef (x y : S76) : orI (cmpI x.f0 y.f0) (cmpI x.f1 y.f1) ≥ 0 ↔ befH x y = false := by
  unfold befH
  rw [decide_eq_false_iff_not]
  unfold orI cmpI
  repeat' split
  all_goals omega
theorem iPlace (w h : Int) (c : List Int) (a b : Int) : impl_Chart_hasPlace.f w h c a b = some (decide ((0 ≤ a ∧ a ≤ wrap64 (h - 1)) ∧ 0 ≤ b ∧ b ≤ wrap64 (w - 1))) := by
  unfold impl_Chart_hasPlace.f
  simp only [iIn, Option.bind_some]
  by_cases h1 : 0 ≤ a ∧ a ≤ wrap64 (h - 1) <;> simp [h1]
theorem iIsHole {w h : Int} {c : List Int} (hg : goodC w h c = true) (x : S76) : impl_Chart_isHole.f w h c x.f0 x.f1 x.f2 x.f3 = some (okH w h x) := by
  obtain ⟨h1, h2, _⟩ := goodC_at hg
  unfold impl_Chart_isHole.f okH
  rw [iPlace, iPlace, w64 (x := h - 1) (by omega), w64 (x := w - 1) (by omega)]
  simp only [Option.bind_some]
  by_cases g1 : (0 ≤ x.f0 ∧ x.f0 ≤ h - 1) ∧ 0 ≤ x.f1 ∧ x.f1 ≤ w - 1
  · by_cases g2 : (0 ≤ x.f2 ∧ x.f2 ≤ h - 1) ∧ 0 ≤ x.f3 ∧ x.f3 ≤ w - 1
    · by_cases g3 : x.f0 ≤ x.f2
      · simp only [decide_eq_true g1, decide_eq_true g2, if_true, if_pos g3]
        congr 1
        rw [decide_eq_decide]
        omega
      · simp only [decide_eq_true g1, decide_eq_true g2, if_true, if_neg g3]
        rw [decide_eq_false (by omega)]
    · simp only [decide_eq_true g1, decide_eq_false g2, if_true, Bool.false_eq_true, if_false]
      rw [decide_eq_false (by omega)]
  · simp only [decide_eq_false g1, Bool.false_eq_true, if_false]
    rw [decide_eq_false (by omega)]
theorem free_take (l : List S76) (i : Nat) (hi : i < l.length) : freeH l i = !((l.take i).any fun x => meetH (nth l i z76) x) := by
  rw [Bool.eq_iff_iff, Bool.not_eq_true', List.any_eq_false]
  unfold freeH
  rw [range_all]
  constructor
  · intro h x hx
    obtain ⟨k, hk, rfl⟩ := List.mem_iff_getElem.1 hx
    rw [List.length_take] at hk
    have := h k (by omega)
    rw [List.getElem_take, meet_comm, ← nth_get (z := z76)]
    simpa using this
  · intro h k hk
    have := h (l[k]'(by omega)) (by
      rw [List.mem_iff_getElem]
      exact ⟨k, by rw [List.length_take]; omega, by rw [List.getElem_take]⟩)
    rw [meet_comm, ← nth_get (z := z76)] at this
    simpa using this
theorem iHoles (w h : Int) (c : List Int) (l : List S76) (hl : l.length ≤ 1048576) : Ev (fun k => impl_AreHoles.f k w h c l) (goodH w h c l) := by
  unfold impl_AreHoles.f
  rw [iChart]
  have j0t : Ev (fun k => impl_AreHoles.j0 k l true) false := by
    refine Ev.succ ?_
    simp only [impl_AreHoles.j0, if_true]
    exact Ev.now _
  simp only [Option.bind_some]
  cases hg : goodC w h c with
  | false =>
    simp only [Bool.false_eq_true, if_false]
    have : goodH w h c l = false := by unfold goodH; rw [hg]; simp
    rw [this]
    exact j0t
  | true =>
    simp only [if_true]
    by_cases h8 : l.length ≤ 8
    · simp only [if_neg (show ¬ (l.length : Int) > 8 by omega)]
      unfold impl_Hole_129__impl_Chart_isHole.f
      rw [all_total (p := okH w h) (fun x _ => iIsHole hg x), all_nth (p := okH w h) z76]
      simp only [Option.bind_some]
      by_cases ha : ((List.range l.length).all fun i => okH w h (nth l i z76)) = true
      · simp only [ha, Bool.not_true]
        refine Ev.succ ?_
        simp only [impl_AreHoles.j0, Bool.false_eq_true, if_false]
        have hs := scanE l.length (fun i => ascH l i && freeH l i) true false (fun k i => impl_AreHoles.l0 k l l (l.length : Int) i) ?hs ?hb ?he
        case hs =>
          intro i r hi ho hr
          rw [Bool.and_eq_true] at ho
          obtain ⟨h1, h2⟩ := ho
          rw [free_take l i hi] at h2
          have h2' : ((l.take i).any fun x => meetH (nth l i z76) x) = false := by simpa using h2
          refine Ev.succ ?_
          by_cases h0 : i = 0
          · simp only [impl_AreHoles.l0, rd76, if_pos (show (i : Int) < (l.length : Int) by omega), if_pos (show (0 : Int) ≤ (i : Int) by omega), if_neg (show ¬ (i : Int) > 0 by omega), if_pos (show (i : Int) ≤ (l.length : Int) by omega), Int.toNat_natCast, iAnyMeets, Option.bind_some, h2', Bool.false_eq_true, if_false, stepI i (by omega)]
            exact hr
          · have hb : befH (nth l (i - 1) z76) (nth l i z76) = true := by
              unfold ascH at h1
              rw [Bool.or_eq_true, decide_eq_true_iff] at h1
              exact h1.resolve_left h0
            simp only [impl_AreHoles.l0, rd76, if_pos (show (i : Int) < (l.length : Int) by omega), if_pos (show (0 : Int) ≤ (i : Int) by omega), if_pos (show (i : Int) > 0 by omega), predI i (by omega), if_pos (show (0 : Int) ≤ ((i - 1 : Nat) : Int) by omega), if_pos (show ((i - 1 : Nat) : Int) < (l.length : Int) by omega)]
            refine Ev.bind (iComp _ _) ?_
            have hn : ¬ orI (cmpI (nth l (i - 1) z76).f0 (nth l i z76).f0) (cmpI (nth l (i - 1) z76).f1 (nth l i z76).f1) ≥ 0 := fun hh => by rw [(comp_bef _ _).1 hh] at hb; cases hb
            simp only [if_neg hn, if_pos (show (i : Int) ≤ (l.length : Int) by omega), Int.toNat_natCast, iAnyMeets, Option.bind_some, h2', Bool.false_eq_true, if_false, stepI i (by omega)]
            exact hr
        case hb =>
          intro i hi ho
          refine Ev.succ ?_
          by_cases h0 : i = 0
          · have h2' : ((l.take i).any fun x => meetH (nth l i z76) x) = true := by
              rw [free_take l i hi] at ho
              exfalso
              simp [ascH, h0] at ho
            simp only [impl_AreHoles.l0, rd76, if_pos (show (i : Int) < (l.length : Int) by omega), if_pos (show (0 : Int) ≤ (i : Int) by omega), if_neg (show ¬ (i : Int) > 0 by omega), if_pos (show (i : Int) ≤ (l.length : Int) by omega), Int.toNat_natCast, iAnyMeets, Option.bind_some, h2', if_true]
            exact Ev.now _
          · simp only [impl_AreHoles.l0, rd76, if_pos (show (i : Int) < (l.length : Int) by omega), if_pos (show (0 : Int) ≤ (i : Int) by omega), if_pos (show (i : Int) > 0 by omega), predI i (by omega), if_pos (show (0 : Int) ≤ ((i - 1 : Nat) : Int) by omega), if_pos (show ((i - 1 : Nat) : Int) < (l.length : Int) by omega)]
            refine Ev.bind (iComp _ _) ?_
            by_cases hb : befH (nth l (i - 1) z76) (nth l i z76) = true
            · have hn : ¬ orI (cmpI (nth l (i - 1) z76).f0 (nth l i z76).f0) (cmpI (nth l (i - 1) z76).f1 (nth l i z76).f1) ≥ 0 := fun hh => by rw [(comp_bef _ _).1 hh] at hb; cases hb
              have h2' : ((l.take i).any fun x => meetH (nth l i z76) x) = true := by
                rw [free_take l i hi] at ho
                unfold ascH at ho
                simpa [h0, hb] using ho
              simp only [if_neg hn, if_pos (show (i : Int) ≤ (l.length : Int) by omega), Int.toNat_natCast, iAnyMeets, Option.bind_some, h2', if_true]
              exact Ev.now _
            · have hn : orI (cmpI (nth l (i - 1) z76).f0 (nth l i z76).f0) (cmpI (nth l (i - 1) z76).f1 (nth l i z76).f1) ≥ 0 := (comp_bef _ _).2 (by simpa using hb)
              simp only [if_pos hn]
              exact Ev.now _
        case he =>
          refine Ev.succ ?_
          simp only [impl_AreHoles.l0, if_neg (show ¬ ((l.length : Int) < (l.length : Int)) by omega)]
          exact Ev.now _
        have e : (if ((List.range l.length).all fun i => ascH l i && freeH l i) = true then true else false) = goodH w h c l := by
          unfold goodH
          rw [hg, decide_eq_true h8]
          simp only [Bool.true_and]
          have e2 : ((List.range l.length).all fun i => holeAt w h l i) = ((List.range l.length).all fun i => ascH l i && freeH l i) := by
            rw [Bool.eq_iff_iff, range_all, range_all]
            rw [range_all] at ha
            exact ⟨fun hh i hi => by have := hh i hi; unfold holeAt at this; rw [Bool.and_eq_true] at this; exact this.2, fun hh i hi => by unfold holeAt; rw [ha i hi, hh i hi]; rfl⟩
          rw [e2]
          generalize (List.range l.length).all _ = b
          cases b <;> rfl
        rw [e] at hs
        exact hs
      · have hf : ((List.range l.length).all fun i => okH w h (nth l i z76)) = false := by simpa using ha
        simp only [hf, Bool.not_false]
        have : goodH w h c l = false := by
          cases hh : goodH w h c l with
          | false => rfl
          | true =>
            refine absurd ?_ ha
            rw [range_all]
            intro i hi
            have := (goodH_at hh).2.2 i hi
            unfold holeAt at this
            rw [Bool.and_eq_true] at this
            exact this.1
        rw [this]
        exact j0t
    · simp only [if_pos (show (l.length : Int) > 8 by omega)]
      have : goodH w h c l = false := by unfold goodH; rw [decide_eq_false h8]; simp
      rw [this]
      exact j0t
end Go.Proofs.Ytkglpfdoefdhdaa.M

namespace Go.Proofs
shelf_lay_g SlLaysN.n43 Slgn 43 at Try 159 as Try.layCompact
end Go.Proofs
namespace Go.Proofs.Ytkglpfdoefdhdaa.WK
open Go Go.RowKit Go.Proofs.Ytkglpfdoefdhdaa.Q Go.Proofs.Ytkglpfdoefdhdaa.M Go.Proofs.YtkglpfdoefdhdaaW.PrintWords Go.Proofs.YtkglpfdoefdhdaaW.SL
open Go.Proofs.YtkglpfdoefdhdaaW.Pl (nth nth_get)
set_option linter.unusedSimpArgs false
set_option linter.unusedVariables false
set_option maxRecDepth 100000
namespace MO
theorem agg26 : AggT Try.prog 26 3 := ⟨by kernel_rfl⟩
theorem agg76 : AggT Try.prog 76 4 := ⟨by kernel_rfl⟩
end MO
end Go.Proofs.Ytkglpfdoefdhdaa.WK

namespace Go.Proofs.Ytkglpfdoefdhdaa.WK
open Go Go.RowKit Go.Proofs.Ytkglpfdoefdhdaa.Q Go.Proofs.YtkglpfdoefdhdaaW.PrintWords Go.Proofs.YtkglpfdoefdhdaaW.Pl Go.Proofs.YtkglpfdoefdhdaaW.SL
set_option linter.unusedSimpArgs false
set_option linter.unusedVariables false
set_option maxRecDepth 100000
namespace Ins165
theorem mixed : Try.prog.follows .mixedOrders = true := by kernel_rfl
theorem sz3 : SzT Try.prog 3 1 := ⟨by kernel_rfl⟩
theorem sc3 : ScT Try.prog 3 := ⟨by kernel_rfl⟩
theorem el24 : ElT Try.prog 24 3 1 := ⟨by kernel_rfl⟩
/-- 'less' on rows of cells. -/
def ltc (cf : List Value → List Value → Int) (x y : List Value) : Bool := decide (cf x y < 0)
set_option maxHeartbeats 8000000 in
theorem run (g : Nat) (lb : Array Value) (eg : Ent Try.prog g) (cf : List Value → List Value → Int) (w0 : World) (h c : Nat) (rows : List (List Value)) (cs : List Value)
    (hh : w0.heap[h]? = some (.cells cs.toArray 3 (0, 0))) (hcl : cs.length = c * 1) (hnc : rows.length ≤ c) (hcx : c ≤ maxLen)
    (hr : ∀ j us, rows[j]? = some us → rowOf 1 cs j = us ∧ us.length = 1 ∧ ∀ u ∈ us, u.oneCell' = true)
    (hC : ∀ W, Aft (fun k => k = h) w0 W → ∀ x y, x ∈ rows → y ∈ rows → Calls Try.prog g (#[hd1 x, hd1 y] ++ lb) W fun e W' => e = .returned (.int .i64 (cf x y)) ∧ Below W.heap.size W W') :
    Calls Try.prog 165 #[.slice (some ⟨h, 0, none⟩) rows.length c, .int .i64 0, .int .i64 (rows.length : Int), .func (.func g) #[] lb] w0 fun e w' => e = .returned (.tuple #[]) ∧ ∃ cs' : List Value, cs'.length = c * 1 ∧ w'.heap[h]? = some (.cells cs'.toArray 3 (0, 0)) ∧ (∀ j us, (isort (ltc cf) rows)[j]? = some us → rowOf 1 cs' j = us) ∧ Aft (fun k => k = h) w0 w' := by
  let Rr : Ending → World → Prop := fun e w' => e = .returned (.tuple #[]) ∧ ∃ cs' : List Value, cs'.length = c * 1 ∧ w'.heap[h]? = some (.cells cs'.toArray 3 (0, 0)) ∧ (∀ j us, (isort (ltc cf) rows)[j]? = some us → rowOf 1 cs' j = us) ∧ Aft (fun k => k = h) w0 w'
  let pC : World → Prop := fun W => ∀ x y, x ∈ rows → y ∈ rows → Calls Try.prog g (#[hd1 x, hd1 y] ++ lb) W fun e W' => e = .returned (.int .i64 (cf x y)) ∧ Below W.heap.size W W'
  have hmx : c ≤ 9223372036854775807 := hcx
  refine enterS (S := fun k => k = h) (args := [.slice (some ⟨h, 0, none⟩) rows.length c, .int .i64 0, .int .i64 (rows.length : Int), .func (.func g) #[] lb]) [.box h 3 cs] [pC] (Own.single ⟨hh, fun k => Iff.rfl⟩) (fun q hq => by
    rw [List.mem_singleton.1 hq]; exact fun W hW => hC W hW) Try.func165 rfl rfl ?_
  show Cj Try.prog _ _ _ (bodyPost Try.prog Try.f165 Rr) _ _ _
  repeat (first
    | (apply gateO; first
      | refine Jl.yd (Y.mv rfl rfl) rfl rfl rfl ?_
      | refine Jl.yd (Y.asg rfl rfl) rfl rfl rfl ?_
      | refine Jl.yd (Y.ext rfl rfl rfl) rfl rfl rfl ?_
      | refine Jl.yd (Y.pickT rfl rfl rfl) rfl rfl rfl ?_
      | refine Jl.yd (Y.pickF rfl rfl rfl) rfl rfl rfl ?_
      | refine Jl.off rfl rfl rfl ?_
      | refine Jl.yd (Y.cmpF rfl rfl rfl rfl (by omega)) rfl rfl rfl ?_
      | refine Jl.yd (Y.cmpT rfl rfl rfl rfl (by omega)) rfl rfl rfl ?_
      | refine Jl.yd (Y.neqB rfl rfl rfl Try.underlying4) rfl rfl rfl ?_
      | refine Jl.yd (Y.cmp rfl rfl rfl rfl) rfl rfl rfl ?_
      | refine Jl.yd (Y.not rfl rfl) rfl rfl rfl ?_
      | refine Jl.yd (Y.arithN rfl rfl rfl rfl (by omega)) rfl rfl rfl ?_
      | refine Jl.yd (Y.arith64 rfl rfl rfl rfl) rfl rfl rfl ?_
      | refine Jl.yd (Y.idx0 rfl rfl rfl el24 (by omega) (by omega)) rfl rfl rfl ?_
      | refine Jl.splitG rfl rfl (fun h => ?_) (fun h => ?_))
    | (apply gateE; first
      | refine Jl.nil (Ej.go ?_ (fun _ _ h => h))
      | (refine Jl.nil (Ej.back (fun _ _ h => h) (by repeat (first | exact .refl | apply DropTo.tail)) ?_); repeat (first | exact trivial | refine ⟨rfl, ?_⟩)))
    | (apply gateC; first
      | refine Cj.block rfl ?_
      | refine Cj.condF rfl rfl (Cj.skip rfl (Ej.go ?_ (fun _ _ h => h)))
      | (refine Cj.condF rfl rfl (Cj.skip rfl (Ej.back (fun _ _ h => h) (by repeat (first | exact .refl | apply DropTo.tail)) ?_)); repeat (first | exact trivial | refine ⟨rfl, ?_⟩))
      | refine Cj.condF rfl rfl ?_
      | refine Cj.condT rfl rfl ?_
      | refine Cj.exit rfl (Ej.go ?_ (fun _ _ h => h))
      | refine Cj.cond rfl rfl (fun h => ?_) (fun h => ?_)
      | refine Cj.skip rfl (Ej.go ?_ (fun _ _ h => h))
      | (refine Cj.skip rfl (Ej.back (fun _ _ h => h) (by repeat (first | exact .refl | apply DropTo.tail)) ?_); repeat (first | exact trivial | refine ⟨rfl, ?_⟩))
      | refine Cj.seq rfl ?_
      | refine Cj.region rfl ?_))
  refine Cj.loop (ι := Nat × List Value) (fun q => (1 ≤ q.1 ∧ (q.1 = 1 ∨ q.1 ≤ rows.length)) ∧ q.2.length = cs.length ∧ ∀ t us, (isort (ltc cf) (rows.take q.1) ++ rows.drop q.1)[t]? = some us → rowOf 1 q.2 t = us)
    (fun q => [(0, .slice (some ⟨h, 0, none⟩) rows.length c), (1, .int .i64 0), (2, .int .i64 (rows.length : Int)), (3, .func (.func g) #[] lb), (8, .int .i64 (q.1 : Int))]) (fun q => [.box h 3 q.2]) (fun _ => [pC]) (fun q => rows.length + 1 - q.1) rfl (1, cs) ⟨⟨Nat.le_refl _, .inl rfl⟩, rfl, fun t us ht => ?_⟩ ⟨rfl, rfl, rfl, rfl, rfl, trivial⟩ rfl (fun p hp => hp) (fun q hq => ?_)
  · have e0 : isort (ltc cf) (rows.take 1) ++ rows.drop 1 = rows := by
      cases rows with
      | nil => rfl
      | cons a r => rfl
    rw [e0] at ht
    exact (hr t us ht).1
  obtain ⟨i, cs1⟩ := q
  obtain ⟨⟨h1, h2⟩, h3, h4⟩ := hq
  dsimp only at h1 h2 h3 h4 ⊢
  by_cases hlt : i < rows.length
  · obtain ⟨x, hxi⟩ : ∃ x, rows[i]? = some x := ⟨_, List.getElem?_eq_getElem hlt⟩
    have hxm := List.mem_of_getElem? hxi
    obtain ⟨_, hxl, hxo⟩ := hr i x hxi
    have htk : rows.take (i + 1) = rows.take i ++ [x] := by rw [List.take_add_one, hxi]; rfl
    have hdr : rows.drop i = x :: rows.drop (i + 1) := by
      rw [List.drop_eq_getElem_cons hlt]; congr 1
      exact (List.getElem?_eq_some_iff.1 hxi).2
    obtain ⟨s, hs⟩ : ∃ s, isort (ltc cf) (rows.take i) = s := ⟨_, rfl⟩
    have hsl : s.length = i := by rw [← hs, isort_len, List.length_take]; omega
    have hsm : ∀ z, z ∈ s → z ∈ rows := fun z hz => List.mem_of_mem_take (isort_mem (hs ▸ hz))
    repeat (first
    | (apply gateO; first
      | refine Jl.yd (Y.mv rfl rfl) rfl rfl rfl ?_
      | refine Jl.yd (Y.asg rfl rfl) rfl rfl rfl ?_
      | refine Jl.yd (Y.ext rfl rfl rfl) rfl rfl rfl ?_
      | refine Jl.yd (Y.pickT rfl rfl rfl) rfl rfl rfl ?_
      | refine Jl.yd (Y.pickF rfl rfl rfl) rfl rfl rfl ?_
      | refine Jl.off rfl rfl rfl ?_
      | refine Jl.yd (Y.cmpF rfl rfl rfl rfl (by omega)) rfl rfl rfl ?_
      | refine Jl.yd (Y.cmpT rfl rfl rfl rfl (by omega)) rfl rfl rfl ?_
      | refine Jl.yd (Y.neqB rfl rfl rfl Try.underlying4) rfl rfl rfl ?_
      | refine Jl.yd (Y.cmp rfl rfl rfl rfl) rfl rfl rfl ?_
      | refine Jl.yd (Y.not rfl rfl) rfl rfl rfl ?_
      | refine Jl.yd (Y.arithN rfl rfl rfl rfl (by omega)) rfl rfl rfl ?_
      | refine Jl.yd (Y.arith64 rfl rfl rfl rfl) rfl rfl rfl ?_
      | refine Jl.yd (Y.idx0 rfl rfl rfl el24 (by omega) (by omega)) rfl rfl rfl ?_
      | refine Jl.splitG rfl rfl (fun h => ?_) (fun h => ?_))
    | (apply gateE; first
      | refine Jl.nil (Ej.go ?_ (fun _ _ h => h))
      | (refine Jl.nil (Ej.back (fun _ _ h => h) (by repeat (first | exact .refl | apply DropTo.tail)) ?_); repeat (first | exact trivial | refine ⟨rfl, ?_⟩)))
    | (apply gateC; first
      | refine Cj.block rfl ?_
      | refine Cj.condF rfl rfl (Cj.skip rfl (Ej.go ?_ (fun _ _ h => h)))
      | (refine Cj.condF rfl rfl (Cj.skip rfl (Ej.back (fun _ _ h => h) (by repeat (first | exact .refl | apply DropTo.tail)) ?_)); repeat (first | exact trivial | refine ⟨rfl, ?_⟩))
      | refine Cj.condF rfl rfl ?_
      | refine Cj.condT rfl rfl ?_
      | refine Cj.exit rfl (Ej.go ?_ (fun _ _ h => h))
      | refine Cj.cond rfl rfl (fun h => ?_) (fun h => ?_)
      | refine Cj.skip rfl (Ej.go ?_ (fun _ _ h => h))
      | (refine Cj.skip rfl (Ej.back (fun _ _ h => h) (by repeat (first | exact .refl | apply DropTo.tail)) ?_); repeat (first | exact trivial | refine ⟨rfl, ?_⟩))
      | refine Cj.seq rfl ?_
      | refine Cj.region rfl ?_))
    refine Cj.loop (ι := List (List Value) × List (List Value) × List Value) (fun p => (p.1.length + p.2.1.length = i ∧ ∀ z, z ∈ p.1 → z ∈ rows) ∧ goI (ltc cf) x p.1 p.2.1 = insR (ltc cf) s x ∧ p.2.2.length = cs.length ∧ ∀ t us, (p.1.reverse ++ x :: (p.2.1 ++ rows.drop (i + 1)))[t]? = some us → rowOf 1 p.2.2 t = us)
      (fun p => [(0, .slice (some ⟨h, 0, none⟩) rows.length c), (1, .int .i64 0), (2, .int .i64 (rows.length : Int)), (3, .func (.func g) #[] lb), (8, .int .i64 (i : Int)), (9, .int .i64 (p.1.length : Int))]) (fun p => [.box h 3 p.2.2]) (fun _ => [pC]) (fun p => p.1.length) rfl (s.reverse, [], cs1) ⟨⟨by simp [hsl], fun z hz => hsm z (List.mem_reverse.1 hz)⟩, rfl, h3, fun t us ht => h4 t us ?_⟩ ⟨rfl, rfl, rfl, rfl, rfl, ?_, trivial⟩ rfl (fun p hp => hp) (fun p hp => ?_)
    · rw [hs, hdr]
      simpa using ht
    · show some (Value.int .i64 (i : Int)) = some (.int .i64 ((s.reverse.length : Nat) : Int))
      rw [List.length_reverse, hsl]
    obtain ⟨A, B, cs2⟩ := p
    obtain ⟨⟨g1, g2⟩, g3, g4, g5⟩ := hp
    dsimp only at g1 g2 g3 g4 g5 ⊢
    have fin : goI (ltc cf) x A B = A.reverse ++ x :: B → ∀ t us, (isort (ltc cf) (rows.take (i + 1)) ++ rows.drop (i + 1))[t]? = some us → rowOf 1 cs2 t = us := fun e t us ht => g5 t us (by
      rw [htk, isort_snoc, hs, ← g3, e] at ht
      simpa using ht)
    cases A with
    | nil =>
      have fin := fin rfl
      repeat (first
    | (apply gateO; first
      | refine Jl.yd (Y.mv rfl rfl) rfl rfl rfl ?_
      | refine Jl.yd (Y.asg rfl rfl) rfl rfl rfl ?_
      | refine Jl.yd (Y.ext rfl rfl rfl) rfl rfl rfl ?_
      | refine Jl.yd (Y.pickT rfl rfl rfl) rfl rfl rfl ?_
      | refine Jl.yd (Y.pickF rfl rfl rfl) rfl rfl rfl ?_
      | refine Jl.off rfl rfl rfl ?_
      | refine Jl.yd (Y.cmpF rfl rfl rfl rfl (by omega)) rfl rfl rfl ?_
      | refine Jl.yd (Y.cmpT rfl rfl rfl rfl (by omega)) rfl rfl rfl ?_
      | refine Jl.yd (Y.neqB rfl rfl rfl Try.underlying4) rfl rfl rfl ?_
      | refine Jl.yd (Y.cmp rfl rfl rfl rfl) rfl rfl rfl ?_
      | refine Jl.yd (Y.not rfl rfl) rfl rfl rfl ?_
      | refine Jl.yd (Y.arithN rfl rfl rfl rfl (by omega)) rfl rfl rfl ?_
      | refine Jl.yd (Y.arith64 rfl rfl rfl rfl) rfl rfl rfl ?_
      | refine Jl.yd (Y.idx0 rfl rfl rfl el24 (by omega) (by omega)) rfl rfl rfl ?_
      | refine Jl.splitG rfl rfl (fun h => ?_) (fun h => ?_))
    | (apply gateE; first
      | refine Jl.nil (Ej.go ?_ (fun _ _ h => h))
      | (refine Jl.nil (Ej.back (fun _ _ h => h) (by repeat (first | exact .refl | apply DropTo.tail)) ?_); repeat (first | exact trivial | refine ⟨rfl, ?_⟩)))
    | (apply gateC; first
      | refine Cj.block rfl ?_
      | refine Cj.regionD rfl (mkD [0, 1, 2, 3, 4, 5, 6, 7, 8, 9, 10, 11, 12, 13, 15, 16] []) [] [0, 1, 2, 3, 4, 5, 6, 7, 8, 9, 10, 11, 12, 13, 14, 15, 16] mixed (by decide +kernel) ?_
      | refine Cj.condF rfl rfl (Cj.skip rfl (Ej.go ?_ (fun _ _ h => h)))
      | (refine Cj.condF rfl rfl (Cj.skip rfl (Ej.back (fun _ _ h => h) (by repeat (first | exact .refl | apply DropTo.tail)) ?_)); repeat (first | exact trivial | refine ⟨rfl, ?_⟩))
      | refine Cj.condF rfl rfl ?_
      | refine Cj.condT rfl rfl ?_
      | refine Cj.exit rfl (Ej.go ?_ (fun _ _ h => h))
      | refine Cj.cond rfl rfl (fun h => ?_) (fun h => ?_)
      | refine Cj.skip rfl (Ej.go ?_ (fun _ _ h => h))
      | (refine Cj.skip rfl (Ej.back (fun _ _ h => h) (by repeat (first | exact .refl | apply DropTo.tail)) ?_); repeat (first | exact trivial | refine ⟨rfl, ?_⟩))
      | refine Cj.seq rfl ?_
      | refine Cj.region rfl ?_))
      refine Jl.nil (Ej.cut (ι := Nat × List Value) _ _ _ _ (fun _ _ h => h) (i + 1, cs2) ⟨⟨⟨by omega, .inr (by omega)⟩, g4, fin⟩, by dsimp only; omega⟩ ⟨rfl, rfl, rfl, rfl, rfl, trivial⟩ rfl (fun p hp => hp))
    | cons y A =>
      obtain ⟨j, hj⟩ : ∃ j, A.length = j := ⟨_, rfl⟩
      have hym := g2 y List.mem_cons_self
      obtain ⟨ty, hty⟩ := List.getElem?_of_mem hym
      obtain ⟨_, hyl, hyo⟩ := hr ty y hty
      have hji : j + 1 ≤ i := by rw [List.length_cons] at g1; omega
      have hrowy : rowOf 1 cs2 (((j + 1 : Nat) : Int) - 1).toNat = y := g5 _ y (by
        rw [show (((j + 1 : Nat) : Int) - 1).toNat = j by omega, List.reverse_cons, List.append_assoc, List.getElem?_append_right (by rw [List.length_reverse, hj]; exact Nat.le_refl _), List.length_reverse, hj, Nat.sub_self]; rfl)
      have hrowx : rowOf 1 cs2 (((j + 1 : Nat) : Int)).toNat = x := g5 _ x (by
        rw [Int.toNat_natCast, List.getElem?_append_right (by rw [List.length_reverse, List.length_cons, hj]; exact Nat.le_refl _), List.length_reverse, List.length_cons, hj, Nat.sub_self]; rfl)
      have close_ : ∀ w its, WS ⟨w0, fun k => k = h⟩ w its [pC] → Calls Try.prog g (#[] ++ [hd1 x, hd1 y].toArray ++ lb) w fun e w' => e = .returned (.int .i64 (cf x y)) ∧ Below w.heap.size w w' := fun w its hW => by
        have := hW.at 0 rfl x y hxm hym
        rw [Array.empty_append]
        exact this
      rw [show (((y :: A).length : Nat) : Int) = ((j + 1 : Nat) : Int) by rw [List.length_cons, hj]]
      by_cases hc : cf x y < 0
      · have hcs : cs2.length = c * 1 := by omega
        have hoff1 : (((j + 1 : Nat) : Int)).toNat * 1 + y.length ≤ cs2.length := by rw [Int.toNat_natCast, hyl, hcs]; omega
        have hoff2 : (((j + 1 : Nat) : Int) - 1).toNat * 1 + x.length ≤ (wr cs2 ((((j + 1 : Nat) : Int)).toNat * 1) y).length := by rw [wr_length hoff1, show (((j + 1 : Nat) : Int) - 1).toNat = j by omega, hxl, hcs]; omega
        repeat (first
    | (apply gateO; first
      | refine Jl.yd (Y.mv rfl rfl) rfl rfl rfl ?_
      | refine Jl.yd (Y.asg rfl rfl) rfl rfl rfl ?_
      | refine Jl.yd (Y.ext rfl rfl rfl) rfl rfl rfl ?_
      | refine Jl.yd (Y.pickT rfl rfl rfl) rfl rfl rfl ?_
      | refine Jl.yd (Y.pickF rfl rfl rfl) rfl rfl rfl ?_
      | refine Jl.off rfl rfl rfl ?_
      | refine Jl.yd (Y.cmpF rfl rfl rfl rfl (by omega)) rfl rfl rfl ?_
      | refine Jl.yd (Y.cmpT rfl rfl rfl rfl (by omega)) rfl rfl rfl ?_
      | refine Jl.yd (Y.neqB rfl rfl rfl Try.underlying4) rfl rfl rfl ?_
      | refine Jl.yd (Y.cmp rfl rfl rfl rfl) rfl rfl rfl ?_
      | refine Jl.yd (Y.not rfl rfl) rfl rfl rfl ?_
      | refine Jl.yd (Y.arithN rfl rfl rfl rfl (by omega)) rfl rfl rfl ?_
      | refine Jl.yd (Y.arith64 rfl rfl rfl rfl) rfl rfl rfl ?_
      | refine Jl.yd (Y.idx0 rfl rfl rfl el24 (by omega) (by omega)) rfl rfl rfl ?_
      | refine Jl.yd (Y.loadE1 rfl rfl sc3 (by repeat (first | exact .head _ | refine .tail _ ?_)) hrowx hxl) rfl rfl rfl ?_
      | refine Jl.yd (Y.loadE1 rfl rfl sc3 (by repeat (first | exact .head _ | refine .tail _ ?_)) hrowy hyl) rfl rfl rfl ?_
      | refine Jl.callc (v := .int .i64 (cf x y)) rfl rfl rfl rfl rfl eg rfl (fun w hW => close_ w _ hW) ?_
      | refine Jl.splitG rfl rfl (fun h => ?_) (fun h => ?_))
    | (apply gateE; first
      | refine Jl.nil (Ej.go ?_ (fun _ _ h => h))
      | (refine Jl.nil (Ej.back (fun _ _ h => h) (by repeat (first | exact .refl | apply DropTo.tail)) ?_); repeat (first | exact trivial | refine ⟨rfl, ?_⟩)))
    | (apply gateC; first
      | refine Cj.block rfl ?_
      | refine Cj.regionD rfl (mkD [0, 1, 2, 3, 4, 5, 6, 7, 8, 9, 10, 11, 12, 13, 15, 16] []) [] [0, 1, 2, 3, 4, 5, 6, 7, 8, 9, 10, 11, 12, 13, 14, 15, 16] mixed (by decide +kernel) ?_
      | refine Cj.condF rfl rfl (Cj.skip rfl (Ej.go ?_ (fun _ _ h => h)))
      | (refine Cj.condF rfl rfl (Cj.skip rfl (Ej.back (fun _ _ h => h) (by repeat (first | exact .refl | apply DropTo.tail)) ?_)); repeat (first | exact trivial | refine ⟨rfl, ?_⟩))
      | refine Cj.condF rfl rfl ?_
      | refine Cj.condT rfl rfl ?_
      | refine Cj.exit rfl (Ej.go ?_ (fun _ _ h => h))
      | refine Cj.cond rfl rfl (fun h => ?_) (fun h => ?_)
      | refine Cj.skip rfl (Ej.go ?_ (fun _ _ h => h))
      | (refine Cj.skip rfl (Ej.back (fun _ _ h => h) (by repeat (first | exact .refl | apply DropTo.tail)) ?_); repeat (first | exact trivial | refine ⟨rfl, ?_⟩))
      | refine Cj.seq rfl ?_
      | refine Cj.region rfl ?_))
        refine Cj.regionJ rfl [15, 17] mixed ?_
        refine Jw.take 0 rfl (by decide +kernel) (by intro c a d v w h; cases d <;> exact h) (fun w => Y.mv rfl rfl) rfl rfl rfl ?_
        refine Jw.take 1 rfl (by decide +kernel) (by intro c a d v w h; cases d <;> exact h) (fun w => Y.mv rfl rfl) rfl rfl rfl ?_
        refine Jw.take 2 rfl (by decide +kernel) (by intro c a d v w h; cases d <;> exact h) (fun w => Y.mv rfl rfl) rfl rfl rfl ?_
        refine Jw.take 3 rfl (by decide +kernel) (by intro c a d v w h; cases d <;> exact h) (fun w => Y.mv rfl rfl) rfl rfl rfl ?_
        refine Jw.take 5 rfl (by decide +kernel) (by intro c a d v w h; cases d <;> exact h) (fun w => Y.mv rfl rfl) rfl rfl rfl ?_
        refine Jw.take 6 rfl (by decide +kernel) (by intro c a d v w h; cases d <;> exact h) (fun w => Y.mv rfl rfl) rfl rfl rfl ?_
        refine Jw.take 10 rfl (by decide +kernel) (by intro c a d v w h; cases d <;> exact h) (fun w => Y.mv rfl rfl) rfl rfl rfl ?_
        refine Jw.take 11 rfl (by decide +kernel) (by intro c a d v w h; cases d <;> exact h) (fun w => Y.mv rfl rfl) rfl rfl rfl ?_
        refine Jw.take 4 rfl (by decide +kernel) (by intro c a d v w h; cases d <;> exact h) (fun w => Y.arithN rfl rfl rfl rfl (by omega)) rfl rfl rfl ?_
        refine Jw.take 7 rfl (by decide +kernel) (by intro c a d v w h; cases d <;> exact h) (fun w => Y.arithN rfl rfl rfl rfl (by omega)) rfl rfl rfl ?_
        refine Jw.take 8 rfl (by decide +kernel) (by intro c a d v w h; cases d <;> exact h) (fun w => Y.idx0 rfl rfl rfl el24 (by omega) (by omega)) rfl rfl rfl ?_
        refine Jw.take 12 rfl (by decide +kernel) (by intro c a d v w h; cases d <;> exact h) (fun w => Y.idx0 rfl rfl rfl el24 (by omega) (by omega)) rfl rfl rfl ?_
        refine Jw.takeR 9 rfl (by decide +kernel) (by intro c a d v w h; cases d <;> exact h) (Y.loadE1 rfl rfl sc3 (by repeat (first | exact .head _ | refine .tail _ ?_)) hrowy hyl) rfl rfl rfl ?_
        refine Jw.takeR 13 rfl (by decide +kernel) (by intro c a d v w h; cases d <;> exact h) (Y.loadE1 rfl rfl sc3 (by repeat (first | exact .head _ | refine .tail _ ?_)) hrowx hxl) rfl rfl rfl ?_
        refine Jw.take 14 rfl (by decide +kernel) (by intro c a d v w h; cases d <;> exact h) (fun w => Y.idx0 rfl rfl rfl el24 (by omega) (by omega)) rfl rfl rfl ?_
        refine Jw.step (mkD [] [0]) 15 rfl (by decide +kernel) rfl rfl ?_
        refine Jl.storeB1 rfl rfl rfl rfl rfl sz3 (by repeat (first | exact .z | apply SetAt.s)) hyl hoff1 hyo ?_
        refine Jl.jw ?_
        refine Jw.take 16 rfl (by decide +kernel) (by intro c a d v w h; cases d <;> exact h) (fun w => Y.idx0 rfl rfl rfl el24 (by omega) (by omega)) rfl rfl rfl ?_
        refine Jw.step (mkD [] [0]) 17 rfl (by decide +kernel) rfl rfl ?_
        refine Jl.storeB1 rfl rfl rfl rfl rfl sz3 (by repeat (first | exact .z | apply SetAt.s)) hxl hoff2 hxo ?_
        refine Jl.jw ?_
        refine Jw.done (by decide +kernel) (Ej.go ?_ (fun _ _ h => h))
        repeat (first
    | (apply gateO; first
      | refine Jl.yd (Y.mv rfl rfl) rfl rfl rfl ?_
      | refine Jl.yd (Y.asg rfl rfl) rfl rfl rfl ?_
      | refine Jl.yd (Y.ext rfl rfl rfl) rfl rfl rfl ?_
      | refine Jl.yd (Y.pickT rfl rfl rfl) rfl rfl rfl ?_
      | refine Jl.yd (Y.pickF rfl rfl rfl) rfl rfl rfl ?_
      | refine Jl.off rfl rfl rfl ?_
      | refine Jl.yd (Y.cmpF rfl rfl rfl rfl (by omega)) rfl rfl rfl ?_
      | refine Jl.yd (Y.cmpT rfl rfl rfl rfl (by omega)) rfl rfl rfl ?_
      | refine Jl.yd (Y.neqB rfl rfl rfl Try.underlying4) rfl rfl rfl ?_
      | refine Jl.yd (Y.cmp rfl rfl rfl rfl) rfl rfl rfl ?_
      | refine Jl.yd (Y.not rfl rfl) rfl rfl rfl ?_
      | refine Jl.yd (Y.arithN rfl rfl rfl rfl (by omega)) rfl rfl rfl ?_
      | refine Jl.yd (Y.arith64 rfl rfl rfl rfl) rfl rfl rfl ?_
      | refine Jl.yd (Y.idx0 rfl rfl rfl el24 (by omega) (by omega)) rfl rfl rfl ?_
      | refine Jl.splitG rfl rfl (fun h => ?_) (fun h => ?_))
    | (apply gateE; first
      | refine Jl.nil (Ej.go ?_ (fun _ _ h => h))
      | (refine Jl.nil (Ej.back (fun _ _ h => h) (by repeat (first | exact .refl | apply DropTo.tail)) ?_); repeat (first | exact trivial | refine ⟨rfl, ?_⟩)))
    | (apply gateC; first
      | refine Cj.block rfl ?_
      | refine Cj.condF rfl rfl (Cj.skip rfl (Ej.go ?_ (fun _ _ h => h)))
      | (refine Cj.condF rfl rfl (Cj.skip rfl (Ej.back (fun _ _ h => h) (by repeat (first | exact .refl | apply DropTo.tail)) ?_)); repeat (first | exact trivial | refine ⟨rfl, ?_⟩))
      | refine Cj.condF rfl rfl ?_
      | refine Cj.condT rfl rfl ?_
      | refine Cj.exit rfl (Ej.go ?_ (fun _ _ h => h))
      | refine Cj.cond rfl rfl (fun h => ?_) (fun h => ?_)
      | refine Cj.skip rfl (Ej.go ?_ (fun _ _ h => h))
      | (refine Cj.skip rfl (Ej.back (fun _ _ h => h) (by repeat (first | exact .refl | apply DropTo.tail)) ?_); repeat (first | exact trivial | refine ⟨rfl, ?_⟩))
      | refine Cj.seq rfl ?_
      | refine Cj.region rfl ?_))
        refine Jl.nil (Ej.cut (ι := List (List Value) × List (List Value) × List Value) _ _ _ _ (fun _ _ h => h) (A, y :: B, wr (wr cs2 ((((j + 1 : Nat) : Int)).toNat * 1) y) ((((j + 1 : Nat) : Int) - 1).toNat * 1) x) ⟨⟨⟨by simp only [List.length_cons] at g1 ⊢; omega, fun z hz => g2 z (List.mem_cons_of_mem _ hz)⟩, ?_, ?_, ?_⟩, by dsimp only; rw [List.length_cons]; exact Nat.lt_succ_self _⟩ ⟨rfl, rfl, rfl, rfl, rfl, ?_, trivial⟩ rfl (fun p hp => hp))
        · rw [← g3]
          conv => rhs; unfold goI
          rw [if_pos (by unfold ltc; simpa using hc)]
        · dsimp only
          rw [wr_length hoff2, wr_length hoff1]
          exact g4
        · dsimp only
          rw [show (((j + 1 : Nat) : Int) - 1).toNat = j by omega, Int.toNat_natCast] at *
          intro t us ht
          have hAl : A.reverse.length = j := by rw [List.length_reverse, hj]
          have old : ∀ t us, (A.reverse ++ y :: x :: (B ++ rows.drop (i + 1)))[t]? = some us → rowOf 1 cs2 t = us := fun t us h => g5 t us (by rw [List.reverse_cons, List.append_assoc]; exact h)
          rcases Nat.lt_trichotomy t j with h | h | h
          · rw [rowOf_wr_lt hoff2 h, rowOf_wr_lt hoff1 (by omega)]
            refine old t us ?_
            rw [List.getElem?_append_left (by omega)] at ht ⊢
            exact ht
          · subst h
            rw [List.getElem?_append_right (by omega), hAl, Nat.sub_self] at ht
            obtain rfl : x = us := by simpa using ht
            exact rowOf_wr_eq hxl (by rw [hxl] at hoff2; exact hoff2)
          · rw [rowOf_wr_gt hoff2 (by omega) h]
            rw [List.getElem?_append_right (by omega), hAl] at ht
            by_cases h' : t = j + 1
            · subst h'
              rw [show j + 1 - j = 1 by omega] at ht
              obtain rfl : y = us := by simpa using ht
              exact rowOf_wr_eq hyl (by rw [hyl] at hoff1; exact hoff1)
            · rw [rowOf_wr_gt hoff1 (by omega) (by omega)]
              refine old t us ?_
              rw [List.getElem?_append_right (by omega), hAl]
              obtain ⟨d, rfl⟩ : ∃ d, t = j + (d + 2) := ⟨t - j - 2, by omega⟩
              rw [show j + (d + 2) - j = d + 2 by omega] at ht ⊢
              simpa using ht
        · show some (Value.int .i64 (((j + 1 : Nat) : Int) - 1)) = some (.int .i64 ((A.length : Nat) : Int))
          rw [hj, show ((j + 1 : Nat) : Int) - 1 = (j : Int) by omega]
      · repeat (first
    | (apply gateO; first
      | refine Jl.yd (Y.mv rfl rfl) rfl rfl rfl ?_
      | refine Jl.yd (Y.asg rfl rfl) rfl rfl rfl ?_
      | refine Jl.yd (Y.ext rfl rfl rfl) rfl rfl rfl ?_
      | refine Jl.yd (Y.pickT rfl rfl rfl) rfl rfl rfl ?_
      | refine Jl.yd (Y.pickF rfl rfl rfl) rfl rfl rfl ?_
      | refine Jl.off rfl rfl rfl ?_
      | refine Jl.yd (Y.cmpF rfl rfl rfl rfl (by omega)) rfl rfl rfl ?_
      | refine Jl.yd (Y.cmpT rfl rfl rfl rfl (by omega)) rfl rfl rfl ?_
      | refine Jl.yd (Y.neqB rfl rfl rfl Try.underlying4) rfl rfl rfl ?_
      | refine Jl.yd (Y.cmp rfl rfl rfl rfl) rfl rfl rfl ?_
      | refine Jl.yd (Y.not rfl rfl) rfl rfl rfl ?_
      | refine Jl.yd (Y.arithN rfl rfl rfl rfl (by omega)) rfl rfl rfl ?_
      | refine Jl.yd (Y.arith64 rfl rfl rfl rfl) rfl rfl rfl ?_
      | refine Jl.yd (Y.idx0 rfl rfl rfl el24 (by omega) (by omega)) rfl rfl rfl ?_
      | refine Jl.yd (Y.loadE1 rfl rfl sc3 (by repeat (first | exact .head _ | refine .tail _ ?_)) hrowx hxl) rfl rfl rfl ?_
      | refine Jl.yd (Y.loadE1 rfl rfl sc3 (by repeat (first | exact .head _ | refine .tail _ ?_)) hrowy hyl) rfl rfl rfl ?_
      | refine Jl.callc (v := .int .i64 (cf x y)) rfl rfl rfl rfl rfl eg rfl (fun w hW => close_ w _ hW) ?_
      | refine Jl.splitG rfl rfl (fun h => ?_) (fun h => ?_))
    | (apply gateE; first
      | refine Jl.nil (Ej.go ?_ (fun _ _ h => h))
      | (refine Jl.nil (Ej.back (fun _ _ h => h) (by repeat (first | exact .refl | apply DropTo.tail)) ?_); repeat (first | exact trivial | refine ⟨rfl, ?_⟩)))
    | (apply gateC; first
      | refine Cj.block rfl ?_
      | refine Cj.regionD rfl (mkD [0, 1, 2, 3, 4, 5, 6, 7, 8, 9, 10, 11, 12, 13, 15, 16] []) [] [0, 1, 2, 3, 4, 5, 6, 7, 8, 9, 10, 11, 12, 13, 14, 15, 16] mixed (by decide +kernel) ?_
      | refine Cj.condF rfl rfl (Cj.skip rfl (Ej.go ?_ (fun _ _ h => h)))
      | (refine Cj.condF rfl rfl (Cj.skip rfl (Ej.back (fun _ _ h => h) (by repeat (first | exact .refl | apply DropTo.tail)) ?_)); repeat (first | exact trivial | refine ⟨rfl, ?_⟩))
      | refine Cj.condF rfl rfl ?_
      | refine Cj.condT rfl rfl ?_
      | refine Cj.exit rfl (Ej.go ?_ (fun _ _ h => h))
      | refine Cj.cond rfl rfl (fun h => ?_) (fun h => ?_)
      | refine Cj.skip rfl (Ej.go ?_ (fun _ _ h => h))
      | (refine Cj.skip rfl (Ej.back (fun _ _ h => h) (by repeat (first | exact .refl | apply DropTo.tail)) ?_); repeat (first | exact trivial | refine ⟨rfl, ?_⟩))
      | refine Cj.seq rfl ?_
      | refine Cj.region rfl ?_))
        have fin := fin (by unfold goI; rw [if_neg (by unfold ltc; simpa using hc)]; simp)
        refine Jl.nil (Ej.cut (ι := Nat × List Value) _ _ _ _ (fun _ _ h => h) (i + 1, cs2) ⟨⟨⟨by omega, .inr (by omega)⟩, g4, fin⟩, by dsimp only; omega⟩ ⟨rfl, rfl, rfl, rfl, rfl, trivial⟩ rfl (fun p hp => hp))
  · repeat (first
    | (apply gateO; first
      | refine Jl.yd (Y.mv rfl rfl) rfl rfl rfl ?_
      | refine Jl.yd (Y.asg rfl rfl) rfl rfl rfl ?_
      | refine Jl.yd (Y.ext rfl rfl rfl) rfl rfl rfl ?_
      | refine Jl.yd (Y.pickT rfl rfl rfl) rfl rfl rfl ?_
      | refine Jl.yd (Y.pickF rfl rfl rfl) rfl rfl rfl ?_
      | refine Jl.off rfl rfl rfl ?_
      | refine Jl.yd (Y.cmpF rfl rfl rfl rfl (by omega)) rfl rfl rfl ?_
      | refine Jl.yd (Y.cmpT rfl rfl rfl rfl (by omega)) rfl rfl rfl ?_
      | refine Jl.yd (Y.neqB rfl rfl rfl Try.underlying4) rfl rfl rfl ?_
      | refine Jl.yd (Y.cmp rfl rfl rfl rfl) rfl rfl rfl ?_
      | refine Jl.yd (Y.not rfl rfl) rfl rfl rfl ?_
      | refine Jl.yd (Y.arithN rfl rfl rfl rfl (by omega)) rfl rfl rfl ?_
      | refine Jl.yd (Y.arith64 rfl rfl rfl rfl) rfl rfl rfl ?_
      | refine Jl.yd (Y.idx0 rfl rfl rfl el24 (by omega) (by omega)) rfl rfl rfl ?_
      | refine Jl.splitG rfl rfl (fun h => ?_) (fun h => ?_))
    | (apply gateE; first
      | refine Jl.nil (Ej.go ?_ (fun _ _ h => h))
      | (refine Jl.nil (Ej.back (fun _ _ h => h) (by repeat (first | exact .refl | apply DropTo.tail)) ?_); repeat (first | exact trivial | refine ⟨rfl, ?_⟩)))
    | (apply gateC; first
      | refine Cj.block rfl ?_
      | refine Cj.condF rfl rfl (Cj.skip rfl (Ej.go ?_ (fun _ _ h => h)))
      | (refine Cj.condF rfl rfl (Cj.skip rfl (Ej.back (fun _ _ h => h) (by repeat (first | exact .refl | apply DropTo.tail)) ?_)); repeat (first | exact trivial | refine ⟨rfl, ?_⟩))
      | refine Cj.condF rfl rfl ?_
      | refine Cj.condT rfl rfl ?_
      | refine Cj.exit rfl (Ej.go ?_ (fun _ _ h => h))
      | refine Cj.cond rfl rfl (fun h => ?_) (fun h => ?_)
      | refine Cj.skip rfl (Ej.go ?_ (fun _ _ h => h))
      | (refine Cj.skip rfl (Ej.back (fun _ _ h => h) (by repeat (first | exact .refl | apply DropTo.tail)) ?_); repeat (first | exact trivial | refine ⟨rfl, ?_⟩))
      | refine Cj.seq rfl ?_
      | refine Cj.region rfl ?_))
    refine Cj.exit rfl (Ej.out0 (P := Try.prog) (fn := Try.f165) (R := Rr) (fun _ _ h => h) rfl (fun w' hW => ?_))
    have hi2 : rows.take i = rows := List.take_of_length_le (by omega)
    have hi3 : rows.drop i = [] := List.drop_eq_nil_of_le (by omega)
    rw [hi2, hi3, List.append_nil] at h4
    exact ⟨rfl, cs1, by omega, Box_at hW (List.mem_cons_self), h4, hW.aft⟩
end Ins165
end Go.Proofs.Ytkglpfdoefdhdaa.WK

namespace Go.Proofs.Ytkglpfdoefdhdaa.WK
open Go Go.RowKit Go.Proofs.Ytkglpfdoefdhdaa.Q Go.Proofs.Ytkglpfdoefdhdaa.M Go.Proofs.YtkglpfdoefdhdaaW.PrintWords Go.Proofs.YtkglpfdoefdhdaaW.SL
open Go.Proofs.YtkglpfdoefdhdaaW.Pl (nth nth_get)
set_option linter.unusedSimpArgs false
set_option linter.unusedVariables false
set_option maxRecDepth 100000
namespace MO
theorem sc3 : ScT Try.prog 3 := ⟨by kernel_rfl⟩
theorem el24 : ElT Try.prog 24 3 1 := ⟨by kernel_rfl⟩
theorem el65 : ElT Try.prog 65 76 4 := ⟨by kernel_rfl⟩
theorem en63 : Ent Try.prog 63 := ⟨enters_of Try.func63 (by kernel_rfl) rfl⟩
theorem mixed : Try.prog.follows .mixedOrders = true := by kernel_rfl
theorem goodHole {wd ht : Int} {cs : List Int} {l : List S76} (hg : goodH wd ht cs l = true) : goodC wd ht cs = true ∧ l.length ≤ 8 ∧ ∀ i, i < l.length → okH wd ht (nth l i z76) = true := by
  obtain ⟨h1, h2, h3⟩ := goodH_at hg
  refine ⟨h1, h2, fun i hi => ?_⟩
  have := h3 i hi
  unfold holeAt at this
  rw [Bool.and_eq_true] at this
  exact this.1
end MO
end Go.Proofs.Ytkglpfdoefdhdaa.WK

namespace Go.Proofs.Ytkglpfdoefdhdaa.Q
open Go.RowKit Go.Proofs.YtkglpfdoefdhdaaW.PrintWords Go.Proofs.YtkglpfdoefdhdaaW.PrintLast Go.Proofs.YtkglpfdoefdhdaaW.PrintMore
attribute [local go_sem] max2_int min2_int max_two min_two max_three min_three max_four min_four
set_option linter.unusedVariables false
set_option linter.unusedSimpArgs false

/-! ### laws_heldHoleS: function 52 -/
def laws_heldHoleS.l0 : Nat → List (S76) → Int → Int → Option (Int)
 | 0, _, _, _ => none
 | k + 1, x0, x1, x5 => if x5 < (x0.length : Int) then (if 0 ≤ x5 then (if ((rd_T76 x0 x5).f0) = x1 then (if ((rd_T76 x0 x5).f1) = (wrap64 (x1 + 1)) then (if ((rd_T76 x0 x5).f2) = (wrap64 ((wrap64 (x1 + 1)) + 1)) then (if ((rd_T76 x0 x5).f3) = (wrap64 ((wrap64 ((wrap64 (x1 + 1)) + 1)) + 1)) then (laws_heldHoleS.l0 k x0 (wrap64 ((wrap64 ((wrap64 ((wrap64 (x1 + 1)) + 1)) + 1)) + 1)) (wrap64 (x5 + 1))) else (some (-1))) else (some (-1))) else (some (-1))) else (some (-1))) else (none)) else (some x1)
def laws_heldHoleS.f (k : Nat) (l0 : List (S76)) (a1 : Int) : Option (Int) := laws_heldHoleS.l0 k l0 a1 0
set_option maxHeartbeats 8000000 in
set_option maxRecDepth 100000 in
theorem laws_heldHoleS.calls (k : Nat) (A0 : Option Addr) (c0 : Nat) (l0 : List (S76)) (a1 : Int) (r : Int) (w : World) (hr0 : Kd.C k76 w A0 l0.length l0) (hc0 : l0.length ≤ c0) (h : laws_heldHoleS.f k l0 a1 = some r) :
  Calls Try.prog 52 #[.slice A0 l0.length c0, .int .i64 a1] w fun e w' => e = .returned (.int .i64 r) ∧ Drawn0 w w' := by
 have HR0 := Aside0.mk hr0
 have HC0 := Aside0.mk hc0
 clear hr0 hc0
 have H : (laws_heldHoleS.l0 k l0 a1 0) = some r := h
 clear h
 have H' := Aside0.mk H
 clear H
 go_enter Try.func52, Try.ntmps52
 go_wp2
 go_loopg [1, 5] k (fun kq v1 v5 w' => ∃ (x1_1 : Int) (x5_1 : Int), v1 = .int .i64 x1_1 ∧ v5 = .int .i64 x5_1 ∧ Aside0 (laws_heldHoleS.l0 kq l0 x1_1 x5_1 = some r) ∧ Aside0 (kq ≤ k) ∧ Drawn0 w w')
 case atStart => exact ⟨(a1), (0), (by first | rfl | (simp; done) | (simp [*]; done)), (by first | rfl | (simp; done) | (simp [*]; done)), H', ⟨Nat.le_refl _⟩, by repeat (first | exact Drawn0.refl _ | apply Drawn0.step)⟩
 case round =>
  clear H'
  try clear p2
  obtain ⟨x1_1, x5_1, rfl, rfl, HA, HK1, ⟨m1, rfl⟩⟩ := hrel
  cases gk with
  | zero => exact absurd HA.out (by simp [laws_heldHoleS.l0])
  | succ k1 =>
   have H := HA.out
   clear HA
   simp only [laws_heldHoleS.l0] at H
   by_cases c3 : x5_1 < (l0.length : Int)
   ·rw [if_pos c3] at H
    have c3b0 : decide (x5_1 < (l0.length : Int)) = true := decide_eq_true c3
    clear c3
    by_cases c4 : 0 ≤ x5_1
    ·rw [if_pos c4] at H
     have c4b0 : decide (0 ≤ x5_1) = true := decide_eq_true c4
     clear c4
     by_cases c5 : ((rd_T76 l0 x5_1).f0) = x1_1
     ·rw [if_pos c5] at H
      have c5b0 : (((rd_T76 l0 x5_1).f0) == x1_1) = true := beq_iff_eq.mpr c5
      have c5b1 : (((rd_T76 l0 x5_1).f0) != x1_1) = false := bne_eq_false_iff_eq.mpr c5
      clear c5
      by_cases c6 : ((rd_T76 l0 x5_1).f1) = (wrap64 (x1_1 + 1))
      ·rw [if_pos c6] at H
       have c6b0 : (((rd_T76 l0 x5_1).f1) == (wrap64 (x1_1 + 1))) = true := beq_iff_eq.mpr c6
       have c6b1 : (((rd_T76 l0 x5_1).f1) != (wrap64 (x1_1 + 1))) = false := bne_eq_false_iff_eq.mpr c6
       clear c6
       by_cases c7 : ((rd_T76 l0 x5_1).f2) = (wrap64 ((wrap64 (x1_1 + 1)) + 1))
       ·rw [if_pos c7] at H
        have c7b0 : (((rd_T76 l0 x5_1).f2) == (wrap64 ((wrap64 (x1_1 + 1)) + 1))) = true := beq_iff_eq.mpr c7
        have c7b1 : (((rd_T76 l0 x5_1).f2) != (wrap64 ((wrap64 (x1_1 + 1)) + 1))) = false := bne_eq_false_iff_eq.mpr c7
        clear c7
        by_cases c8 : ((rd_T76 l0 x5_1).f3) = (wrap64 ((wrap64 ((wrap64 (x1_1 + 1)) + 1)) + 1))
        ·rw [if_pos c8] at H
         have c8b0 : (((rd_T76 l0 x5_1).f3) == (wrap64 ((wrap64 ((wrap64 (x1_1 + 1)) + 1)) + 1))) = true := beq_iff_eq.mpr c8
         have c8b1 : (((rd_T76 l0 x5_1).f3) != (wrap64 ((wrap64 ((wrap64 (x1_1 + 1)) + 1)) + 1))) = false := bne_eq_false_iff_eq.mpr c8
         clear c8
         have H' := Aside0.mk H
         clear H
         have p421 : 0 ≤ (x5_1 : Int) := of_decide_eq_true (by first | (with_reducible assumption) | assumption)
         have q421 : x5_1 < (l0.length : Int) := of_decide_eq_true (by first | (with_reducible assumption) | assumption)
         obtain ⟨ad421, e421, hx421_0, hx421_1, hx421_2, hx421_3⟩ := at_T76 HR0.out x5_1 p421 q421
         cases e421
         replace p421 := eq_true p421
         replace q421 := eq_true q421
         have p422 : 0 ≤ (x5_1 : Int) := of_decide_eq_true (by first | (with_reducible assumption) | assumption)
         have q422 : x5_1 < (l0.length : Int) := of_decide_eq_true (by first | (with_reducible assumption) | assumption)
         obtain ⟨ad422, e422, hx422_0, hx422_1, hx422_2, hx422_3⟩ := at_T76 HR0.out x5_1 p422 q422
         obtain rfl : ad421 = ad422 := (by injection e422)
         replace p422 := eq_true p422
         replace q422 := eq_true q422
         have p423 : 0 ≤ (x5_1 : Int) := of_decide_eq_true (by first | (with_reducible assumption) | assumption)
         have q423 : x5_1 < (l0.length : Int) := of_decide_eq_true (by first | (with_reducible assumption) | assumption)
         obtain ⟨ad423, e423, hx423_0, hx423_1, hx423_2, hx423_3⟩ := at_T76 HR0.out x5_1 p423 q423
         obtain rfl : ad421 = ad423 := (by injection e423)
         replace p423 := eq_true p423
         replace q423 := eq_true q423
         have p424 : 0 ≤ (x5_1 : Int) := of_decide_eq_true (by first | (with_reducible assumption) | assumption)
         have q424 : x5_1 < (l0.length : Int) := of_decide_eq_true (by first | (with_reducible assumption) | assumption)
         obtain ⟨ad424, e424, hx424_0, hx424_1, hx424_2, hx424_3⟩ := at_T76 HR0.out x5_1 p424 q424
         obtain rfl : ad421 = ad424 := (by injection e424)
         replace p424 := eq_true p424
         replace q424 := eq_true q424
         go_wp2
         go_roundg k1
         case measure => have := HK1.out; omega
         case rel => exact ⟨(wrap64 ((wrap64 ((wrap64 ((wrap64 (x1_1 + 1)) + 1)) + 1)) + 1)), (wrap64 (x5_1 + 1)), (by first | rfl | (simp; done) | (simp [*]; done)), (by first | rfl | (simp; done) | (simp [*]; done)), H', ⟨by have := HK1.out; omega⟩, by repeat (first | exact Drawn0.refl _ | apply Drawn0.step)⟩
        ·rw [if_neg c8] at H
         have c8b0 : (((rd_T76 l0 x5_1).f3) == (wrap64 ((wrap64 ((wrap64 (x1_1 + 1)) + 1)) + 1))) = false := beq_eq_false_iff_ne.mpr c8
         have c8b1 : (((rd_T76 l0 x5_1).f3) != (wrap64 ((wrap64 ((wrap64 (x1_1 + 1)) + 1)) + 1))) = true := bne_iff_ne.mpr c8
         obtain rfl := Option.some.inj H
         have p421 : 0 ≤ (x5_1 : Int) := of_decide_eq_true (by first | (with_reducible assumption) | assumption)
         have q421 : x5_1 < (l0.length : Int) := of_decide_eq_true (by first | (with_reducible assumption) | assumption)
         obtain ⟨ad421, e421, hx421_0, hx421_1, hx421_2, hx421_3⟩ := at_T76 HR0.out x5_1 p421 q421
         cases e421
         replace p421 := eq_true p421
         replace q421 := eq_true q421
         have p422 : 0 ≤ (x5_1 : Int) := of_decide_eq_true (by first | (with_reducible assumption) | assumption)
         have q422 : x5_1 < (l0.length : Int) := of_decide_eq_true (by first | (with_reducible assumption) | assumption)
         obtain ⟨ad422, e422, hx422_0, hx422_1, hx422_2, hx422_3⟩ := at_T76 HR0.out x5_1 p422 q422
         obtain rfl : ad421 = ad422 := (by injection e422)
         replace p422 := eq_true p422
         replace q422 := eq_true q422
         have p423 : 0 ≤ (x5_1 : Int) := of_decide_eq_true (by first | (with_reducible assumption) | assumption)
         have q423 : x5_1 < (l0.length : Int) := of_decide_eq_true (by first | (with_reducible assumption) | assumption)
         obtain ⟨ad423, e423, hx423_0, hx423_1, hx423_2, hx423_3⟩ := at_T76 HR0.out x5_1 p423 q423
         obtain rfl : ad421 = ad423 := (by injection e423)
         replace p423 := eq_true p423
         replace q423 := eq_true q423
         have p424 : 0 ≤ (x5_1 : Int) := of_decide_eq_true (by first | (with_reducible assumption) | assumption)
         have q424 : x5_1 < (l0.length : Int) := of_decide_eq_true (by first | (with_reducible assumption) | assumption)
         obtain ⟨ad424, e424, hx424_0, hx424_1, hx424_2, hx424_3⟩ := at_T76 HR0.out x5_1 p424 q424
         obtain rfl : ad421 = ad424 := (by injection e424)
         replace p424 := eq_true p424
         replace q424 := eq_true q424
         go_wp2
         go_ret
         exact ⟨by first | rfl | (simp; done) | (simp [*]; done), by repeat (first | exact Drawn0.refl _ | apply Drawn0.step)⟩
       ·rw [if_neg c7] at H
        have c7b0 : (((rd_T76 l0 x5_1).f2) == (wrap64 ((wrap64 (x1_1 + 1)) + 1))) = false := beq_eq_false_iff_ne.mpr c7
        have c7b1 : (((rd_T76 l0 x5_1).f2) != (wrap64 ((wrap64 (x1_1 + 1)) + 1))) = true := bne_iff_ne.mpr c7
        obtain rfl := Option.some.inj H
        have p421 : 0 ≤ (x5_1 : Int) := of_decide_eq_true (by first | (with_reducible assumption) | assumption)
        have q421 : x5_1 < (l0.length : Int) := of_decide_eq_true (by first | (with_reducible assumption) | assumption)
        obtain ⟨ad421, e421, hx421_0, hx421_1, hx421_2, hx421_3⟩ := at_T76 HR0.out x5_1 p421 q421
        cases e421
        replace p421 := eq_true p421
        replace q421 := eq_true q421
        have p422 : 0 ≤ (x5_1 : Int) := of_decide_eq_true (by first | (with_reducible assumption) | assumption)
        have q422 : x5_1 < (l0.length : Int) := of_decide_eq_true (by first | (with_reducible assumption) | assumption)
        obtain ⟨ad422, e422, hx422_0, hx422_1, hx422_2, hx422_3⟩ := at_T76 HR0.out x5_1 p422 q422
        obtain rfl : ad421 = ad422 := (by injection e422)
        replace p422 := eq_true p422
        replace q422 := eq_true q422
        have p423 : 0 ≤ (x5_1 : Int) := of_decide_eq_true (by first | (with_reducible assumption) | assumption)
        have q423 : x5_1 < (l0.length : Int) := of_decide_eq_true (by first | (with_reducible assumption) | assumption)
        obtain ⟨ad423, e423, hx423_0, hx423_1, hx423_2, hx423_3⟩ := at_T76 HR0.out x5_1 p423 q423
        obtain rfl : ad421 = ad423 := (by injection e423)
        replace p423 := eq_true p423
        replace q423 := eq_true q423
        go_wp2
        go_ret
        exact ⟨by first | rfl | (simp; done) | (simp [*]; done), by repeat (first | exact Drawn0.refl _ | apply Drawn0.step)⟩
      ·rw [if_neg c6] at H
       have c6b0 : (((rd_T76 l0 x5_1).f1) == (wrap64 (x1_1 + 1))) = false := beq_eq_false_iff_ne.mpr c6
       have c6b1 : (((rd_T76 l0 x5_1).f1) != (wrap64 (x1_1 + 1))) = true := bne_iff_ne.mpr c6
       obtain rfl := Option.some.inj H
       have p421 : 0 ≤ (x5_1 : Int) := of_decide_eq_true (by first | (with_reducible assumption) | assumption)
       have q421 : x5_1 < (l0.length : Int) := of_decide_eq_true (by first | (with_reducible assumption) | assumption)
       obtain ⟨ad421, e421, hx421_0, hx421_1, hx421_2, hx421_3⟩ := at_T76 HR0.out x5_1 p421 q421
       cases e421
       replace p421 := eq_true p421
       replace q421 := eq_true q421
       have p422 : 0 ≤ (x5_1 : Int) := of_decide_eq_true (by first | (with_reducible assumption) | assumption)
       have q422 : x5_1 < (l0.length : Int) := of_decide_eq_true (by first | (with_reducible assumption) | assumption)
       obtain ⟨ad422, e422, hx422_0, hx422_1, hx422_2, hx422_3⟩ := at_T76 HR0.out x5_1 p422 q422
       obtain rfl : ad421 = ad422 := (by injection e422)
       replace p422 := eq_true p422
       replace q422 := eq_true q422
       go_wp2
       go_ret
       exact ⟨by first | rfl | (simp; done) | (simp [*]; done), by repeat (first | exact Drawn0.refl _ | apply Drawn0.step)⟩
     ·rw [if_neg c5] at H
      have c5b0 : (((rd_T76 l0 x5_1).f0) == x1_1) = false := beq_eq_false_iff_ne.mpr c5
      have c5b1 : (((rd_T76 l0 x5_1).f0) != x1_1) = true := bne_iff_ne.mpr c5
      obtain rfl := Option.some.inj H
      have p421 : 0 ≤ (x5_1 : Int) := of_decide_eq_true (by first | (with_reducible assumption) | assumption)
      have q421 : x5_1 < (l0.length : Int) := of_decide_eq_true (by first | (with_reducible assumption) | assumption)
      obtain ⟨ad421, e421, hx421_0, hx421_1, hx421_2, hx421_3⟩ := at_T76 HR0.out x5_1 p421 q421
      cases e421
      replace p421 := eq_true p421
      replace q421 := eq_true q421
      go_wp2
      go_ret
      exact ⟨by first | rfl | (simp; done) | (simp [*]; done), by repeat (first | exact Drawn0.refl _ | apply Drawn0.step)⟩
    ·rw [if_neg c4] at H
     exact absurd H (by simp)
   ·rw [if_neg c3] at H
    have c3b0 : decide (x5_1 < (l0.length : Int)) = false := decide_eq_false c3
    clear c3
    obtain rfl := Option.some.inj H
    go_wp2
    go_ret
    exact ⟨by first | rfl | (simp; done) | (simp [*]; done), by repeat (first | exact Drawn0.refl _ | apply Drawn0.step)⟩

end Go.Proofs.Ytkglpfdoefdhdaa.Q

namespace Go.Proofs.Ytkglpfdoefdhdaa.WK
open Go Go.RowKit Go.Proofs.Ytkglpfdoefdhdaa.Q Go.Proofs.Ytkglpfdoefdhdaa.M Go.Proofs.YtkglpfdoefdhdaaW.PrintWords Go.Proofs.YtkglpfdoefdhdaaW.PrintLast Go.Proofs.YtkglpfdoefdhdaaW.Pl
open Go.Proofs.YtkglpfdoefdhdaaW.SL (goI insR isort snoc_ind isort_snoc)
set_option linter.unusedSimpArgs false
set_option linter.unusedVariables false
namespace MQ
/-! Marks in the fields of holes. -/
def mkH (m : Int) : S76 := ⟨m, m + 1, m + 2, m + 3⟩
def marksH (n : Nat) : List S76 := (List.range n).map fun j : Nat => mkH ((4 * j + 1 : Nat) : Int)
theorem marksH_len (n : Nat) : (marksH n).length = n := by unfold marksH; simp
theorem marksH_nth (n i : Nat) (h : i < n) : nth (marksH n) i z76 = mkH ((4 * i + 1 : Nat) : Int) := by rw [nth_get (by rw [marksH_len]; exact h)]; unfold marksH; simp
theorem nthSet {l : List S76} {i : Nat} {v : S76} (h : i < l.length) : nth (l.set i v) i z76 = v := by rw [nth_get (by simpa using h)]; simp
theorem markOne (k : Nat) (a : List S76) (m i : Nat) (hi : i < a.length) (hm : m ≤ 4398046511104) (hib : i ≤ 1048576) : laws_markHoleS.l0 (k + 1) a (m : Int) (i : Int) = laws_markHoleS.l0 k (a.set i (mkH (m : Int))) ((m + 4 : Nat) : Int) ((i + 1 : Nat) : Int) := by
  have e1 : wrap64 ((m : Int) + 1) = (m : Int) + 1 := w64 (by omega)
  have e2 : wrap64 ((m : Int) + 1 + 1) = (m : Int) + 2 := by rw [w64 (by omega)]; omega
  have e3 : wrap64 ((m : Int) + 2 + 1) = (m : Int) + 3 := by rw [w64 (by omega)]; omega
  have e4 : wrap64 ((m : Int) + 3 + 1) = ((m + 4 : Nat) : Int) := by rw [w64 (by omega)]; omega
  have e5 : wrap64 ((i : Int) + 1) = ((i + 1 : Nat) : Int) := by rw [w64 (by omega)]; omega
  simp only [laws_markHoleS.l0, if_pos (show (i : Int) < (a.length : Int) by omega), if_pos (show (0 : Int) ≤ (i : Int) by omega), Option.bind_some, Int.toNat_natCast, rd76, List.set_set, e1, e2, e3, e4, e5, nthSet hi]
  rfl
theorem markHolesX (l : List S76) (hm : l.length ≤ 1048576) : Ev (fun k => laws_markHoleS.f k l 1) (((4 * l.length + 1 : Nat) : Int), marksH l.length) := by
  have main : ∀ d (i m : Nat) (a : List S76), m = 4 * i + 1 → a.length = l.length → l.length - i = d → i ≤ l.length → (∀ j, j < i → nth a j z76 = mkH ((4 * j + 1 : Nat) : Int)) → Ev (fun k => laws_markHoleS.l0 k a (m : Int) (i : Int)) (((4 * l.length + 1 : Nat) : Int), marksH l.length) := by
    intro d
    induction d with
    | zero =>
      intro i m a hmi ha hd hi hj
      have hil : i = l.length := by omega
      refine Ev.succ ?_
      simp only [laws_markHoleS.l0, if_neg (show ¬ ((i : Int) < (a.length : Int)) by omega)]
      have e : a = marksH l.length := by
        apply List.ext_getElem (by rw [ha, marksH_len])
        intro j h1 h2
        rw [marksH_len] at h2
        have := hj j (by omega)
        rw [nth_get h1] at this
        have h3 := marksH_nth l.length j h2
        rw [nth_get (by rw [marksH_len]; exact h2)] at h3
        rw [this, h3]
      rw [e, hmi, hil]
      exact Ev.now _
    | succ d ih =>
      intro i m a hmi ha hd hi hj
      refine Ev.succ ?_
      simp only [markOne _ a m i (by omega) (by omega) (by omega)]
      refine ih (i + 1) (m + 4) _ (by omega) (by simp [ha]) (by omega) (by omega) (fun j hj2 => ?_)
      by_cases e : j = i
      · subst e; rw [nthSet (by omega), hmi]
      · have := hj j (by omega)
        rw [nth_get (by omega)] at this
        rw [nth_get (by simp; omega), List.getElem_set_ne (by omega)]
        exact this
  exact main l.length 0 1 l rfl rfl (by omega) (by omega) (fun j hj => by omega)
theorem heldOne (k : Nat) (a : List S76) (m i : Nat) (hi : i < a.length) (hn : nth a i z76 = mkH (m : Int)) (hm : m ≤ 4398046511104) (hib : i ≤ 1048576) : laws_heldHoleS.l0 (k + 1) a (m : Int) (i : Int) = laws_heldHoleS.l0 k a ((m + 4 : Nat) : Int) ((i + 1 : Nat) : Int) := by
  have e1 : wrap64 ((m : Int) + 1) = (m : Int) + 1 := w64 (by omega)
  have e2 : wrap64 ((m : Int) + 1 + 1) = (m : Int) + 2 := by rw [w64 (by omega)]; omega
  have e3 : wrap64 ((m : Int) + 2 + 1) = (m : Int) + 3 := by rw [w64 (by omega)]; omega
  have e4 : wrap64 ((m : Int) + 3 + 1) = ((m + 4 : Nat) : Int) := by rw [w64 (by omega)]; omega
  have e5 : wrap64 ((i : Int) + 1) = ((i + 1 : Nat) : Int) := by rw [w64 (by omega)]; omega
  simp only [laws_heldHoleS.l0, if_pos (show (i : Int) < (a.length : Int) by omega), if_pos (show (0 : Int) ≤ (i : Int) by omega), rd76, e1, e2, e3, e4, e5, hn]
  rw [if_pos (show (mkH (m : Int)).f0 = (m : Int) from rfl), if_pos (show (mkH (m : Int)).f1 = (m : Int) + 1 from rfl), if_pos (show (mkH (m : Int)).f2 = (m : Int) + 2 from rfl), if_pos (show (mkH (m : Int)).f3 = (m : Int) + 3 from rfl)]
theorem heldHolesX (n : Nat) (hm : n ≤ 1048576) : Ev (fun k => laws_heldHoleS.f k (marksH n) 1) ((4 * n + 1 : Nat) : Int) := by
  have main : ∀ d (i m : Nat), m = 4 * i + 1 → n - i = d → i ≤ n → Ev (fun k => laws_heldHoleS.l0 k (marksH n) (m : Int) (i : Int)) ((4 * n + 1 : Nat) : Int) := by
    have hl := marksH_len n
    intro d
    induction d with
    | zero =>
      intro i m hmi hd hi
      have hil : i = n := by omega
      refine Ev.succ ?_
      simp only [laws_heldHoleS.l0, if_neg (show ¬ ((i : Int) < ((marksH n).length : Int)) by omega)]
      rw [hmi, hil]
      exact Ev.now _
    | succ d ih =>
      intro i m hmi hd hi
      refine Ev.succ ?_
      have hn := marksH_nth n i (by omega)
      rw [← hmi] at hn
      simp only [heldOne _ _ m i (by omega) hn (by omega) (by omega)]
      exact ih (i + 1) (m + 4) (by omega) (by omega) (by omega)
  exact main n 0 1 rfl (by omega) (by omega)
end MQ
end Go.Proofs.Ytkglpfdoefdhdaa.WK

namespace Go.Proofs
shelf_lay_g SlLaysM.n5 Slgm 5 at Try 89 as Try.laySort
end Go.Proofs
namespace Go.Proofs.Ytkglpfdoefdhdaa.WK
open Go Go.RowKit Go.Proofs.Ytkglpfdoefdhdaa.Q Go.Proofs.Ytkglpfdoefdhdaa.M Go.Proofs.YtkglpfdoefdhdaaW.PrintWords Go.Proofs.YtkglpfdoefdhdaaW.SL
open Go.Proofs.YtkglpfdoefdhdaaW.Pl (nth nth_get)
set_option linter.unusedSimpArgs false
set_option linter.unusedVariables false
set_option maxRecDepth 100000
open Go.Sort Go.Shelf Go.Lib
namespace FM
open MO (mixed agg26 agg76 el24 el65 sc3 goodHole)
theorem zero76 : ZeroT Try.prog 76 [.int .i64 0, .int .i64 0, .int .i64 0, .int .i64 0] := ⟨by kernel_rfl⟩
def enc (x : S76) : List Value := [.int .i64 x.f0, .int .i64 x.f1, .int .i64 x.f2, .int .i64 x.f3]
theorem encM (w : World) (b : Nat) (ok : Nat → Prop) (x : S76) (cs : List Value) : k76.M w b ok x cs ↔ cs = enc x := ⟨fun h => k76_openM h, fun h => h ▸ k76_mkM w b ok x⟩
theorem encO (x : S76) : ∀ u ∈ enc x, u.oneCell' = true := fun u hu => by
  simp only [enc, List.mem_cons, List.not_mem_nil, or_false] at hu
  rcases hu with rfl | rfl | rfl | rfl <;> rfl
theorem flat76 : Flat k76 enc 4 := ⟨rfl, encM, fun w x cs h => k76_open h, fun _ => rfl, encO, by decide⟩
theorem ap65 : ApT Try.prog 65 76 4 32 := apT_of (z := .agg #[.int .i64 0, .int .i64 0, .int .i64 0, .int .i64 0]) Try.underlying65 (by kernel_rfl) rfl (by decide)
theorem fill4 (a b c d z0 z1 z2 z3 : Value) : Instr.fill (fun i => some (i * 4, 4)) ((Array.range 4).map (fun j => [z0, z1, z2, z3][j % [z0, z1, z2, z3].length]?.getD default)) [(0, .agg #[a, b, c, d])] = some #[a, b, c, d] := by
  have h : (Array.range 4).map (fun j => [z0, z1, z2, z3][j % [z0, z1, z2, z3].length]?.getD default) = #[z0, z1, z2, z3] := by
    apply Array.toList_inj.1
    rw [Array.toList_map, Array.toList_range]
    rfl
  rw [h]
  simp [Instr.fill, Value.cells, Array.zipIdx]
theorem outH {w0 w : World} {v : Value} {xs : List S76} {its : List Go.Proofs.YtkglpfdoefdhdaaW.SL.Item} {ps : List (World → Prop)} (h : WS (base w0) w its ps) (hpk : Pick its [.row k76 76 0 v xs]) : k76.R 76 w w0.heap.size (fun _ => True) v xs := by
  obtain ⟨h1, S, ⟨Aa, C1, g1, g2, g3, g4⟩, h3, h4⟩ := h.pick hpk
  have hown : ∀ k, v.ownBlock = some k → w0.heap.size ≤ k := fun k hk => (h3 k ((g3 k).2 (.inl (g1.1.1 k hk)))).resolve_left (fun h => h)
  exact Kd.R_mono (Kd.R_raise (b := 0) (fun _ _ _ _ h => (k76_openM h) ▸ k76_mkM _ _ _ _) g1.1 hown) (fun _ _ => trivial)
end FM
end Go.Proofs.Ytkglpfdoefdhdaa.WK

namespace Go.Proofs.Ytkglpfdoefdhdaa.WK
open Go Go.RowKit Go.Proofs.Ytkglpfdoefdhdaa.Q Go.Proofs.Ytkglpfdoefdhdaa.M Go.Proofs.YtkglpfdoefdhdaaW.PrintWords Go.Proofs.YtkglpfdoefdhdaaW.SL
open Go.Proofs.YtkglpfdoefdhdaaW.Pl (nth nth_get)
set_option linter.unusedSimpArgs false
set_option linter.unusedVariables false
set_option maxRecDepth 100000
namespace IH
open MO (mixed sc3)
theorem agg76 : AggT Try.prog 76 4 := ⟨by kernel_rfl⟩
theorem el65 : ElT Try.prog 65 76 4 := ⟨by kernel_rfl⟩
theorem en118 : Ent Try.prog 118 := ⟨enters_of Try.func118 (by kernel_rfl) rfl⟩
theorem en116 : Ent Try.prog 116 := ⟨enters_of Try.func116 (by kernel_rfl) rfl⟩
theorem en117 : Ent Try.prog 117 := ⟨enters_of Try.func117 (by kernel_rfl) rfl⟩
def enc (x : S76) : List Value := [.int .i64 x.f0, .int .i64 x.f1, .int .i64 x.f2, .int .i64 x.f3]
theorem encM (w : World) (b : Nat) (ok : Nat → Prop) (x : S76) (cs : List Value) : k76.M w b ok x cs ↔ cs = enc x := ⟨fun h => k76_openM h, fun h => h ▸ k76_mkM w b ok x⟩
theorem encO (x : S76) : ∀ u ∈ enc x, u.oneCell' = true := fun u hu => by
  simp only [enc, List.mem_cons, List.not_mem_nil, or_false] at hu
  rcases hu with rfl | rfl | rfl | rfl <;> rfl
theorem encL (x : S76) : (enc x).length = 4 := rfl
theorem flat76 : Flat k76 enc 4 := ⟨rfl, encM, fun w x cs h => k76_open h, fun _ => rfl, encO, by decide⟩
theorem ap65 : ApT Try.prog 65 76 4 32 := apT_of (z := .agg #[.int .i64 0, .int .i64 0, .int .i64 0, .int .i64 0]) Try.underlying65 (by kernel_rfl) rfl (by decide)
theorem ofBlk {gv : Nat} {x : S76} {W : World} (h : W.heap[gv]? = some (.cells (enc x).toArray 76 (0, 0))) : Kd.C k76 W (some ⟨gv, 0, none⟩) [x].length [x] := by
  refine ⟨rfl, by show (1 : Nat) ≤ _; omega, fun _ => ⟨_, rfl, fun j p hp => ?_⟩⟩
  obtain ⟨rfl, rfl⟩ : j = 0 ∧ p = x := by
    cases j with
    | zero => simpa using hp.symm
    | succ j => simp at hp
  refine ⟨enc p, rfl, k76_mk W p, fun i u hu => ?_⟩
  have := Box_cells (w := W) (g := gv) (T' := 76) (cs := enc p) h 0
  have := this i u (by simpa using hu)
  rw [Nat.zero_mul, Nat.zero_add]
  exact this
/-- The row with x put in. -/
def insL (xs : List S76) (i : Nat) (x : S76) : List S76 := (xs.take i ++ [x]) ++ xs.drop i
theorem insL_len {xs : List S76} {i : Nat} (x : S76) (hi : i ≤ xs.length) : (insL xs i x).length = xs.length + 1 := by simp only [insL, List.length_append, List.length_take, List.length_drop, List.length_cons, List.length_nil]; omega
theorem outRow {w w' : World} {S0 : Nat → Prop} {A : Option Addr} {c : Nat} {ys : List S76} (h : WS ⟨w, S0⟩ w' [.row k76 76 0 (.slice A ys.length c) ys] []) (hc : ys.length ≤ c) : ∃ A' c', (Ending.returned (.slice A ys.length c) : Ending) = .returned (.slice A' ys.length c') ∧ ys.length ≤ c' ∧ ∃ S', (Go.Proofs.YtkglpfdoefdhdaaW.SL.Item.row k76 76 0 (.slice A' ys.length c') ys).p w' S' ∧ (∀ k, S' k → k < w.heap.size → S0 k) ∧ Aft S0 w w' := by
  obtain ⟨S', h1, h2, h3⟩ := h.end1
  exact ⟨A, c, rfl, hc, S', h1, h2, h3⟩
/-- A block that holds a row. -/
theorem rowBox {w : World} {g cap n : Nat} {cs : List Value} {ys : List S76} {S : Nat → Prop} (h : (Go.Proofs.YtkglpfdoefdhdaaW.SL.Item.box g 76 cs).p w S) (hn : ys.length = n) (hc : n ≤ cap) (hm : cap ≤ maxLen) (hl : cs.length = cap * 4) (ht : cs.take (n * 4) = ys.flatMap enc) : (Go.Proofs.YtkglpfdoefdhdaaW.SL.Item.row k76 76 0 (.slice (some ⟨g, 0, none⟩) n cap) ys).p w S := by
  subst hn
  obtain ⟨h1, h2⟩ := h
  refine ⟨(row_F flat76).2 ⟨fun k hk => (h2 k).2 ?_, ?_, .inr ⟨g, cap, cs.toArray, rfl, Nat.zero_le _, h1, hc, hm, by simpa using hl, by simpa using ht⟩⟩, fun k hk => ?_⟩
  · simpa [Value.ownBlock] using hk.symm
  · rw [flat_len encL]
  · rw [(h2 k).1 hk]; exact blk_lt h1
theorem seg {cs us : List Value} {off : Nat} (h : off + us.length ≤ cs.length) : wr cs off us = cs.take off ++ us ++ cs.drop (off + us.length) := by
  apply List.ext_getElem?
  intro j
  rw [wr_get h]
  split
  · rename_i h1
    rw [List.append_assoc, List.getElem?_append_left (by rw [List.length_take]; omega), List.getElem?_take, if_pos h1]
  · rename_i h1
    split
    · rename_i h2
      rw [List.append_assoc, List.getElem?_append_right (by rw [List.length_take]; omega), List.length_take, Nat.min_eq_left (by omega), List.getElem?_append_left (by omega)]
    · rename_i h2
      rw [List.getElem?_append_right (by rw [List.length_append, List.length_take]; omega), List.length_append, List.length_take, Nat.min_eq_left (by omega), List.getElem?_drop]
      congr 1
      omega
theorem flatTake (xs : List S76) (i : Nat) (hi : i ≤ xs.length) : (xs.flatMap enc).take (i * 4) = (xs.take i).flatMap enc := by
  have h := flat_len encL (xs.take i)
  conv => lhs; rw [← List.take_append_drop i xs, List.flatMap_append]
  rw [List.take_left' (by rw [h, List.length_take, Nat.min_eq_left hi])]
theorem flatDrop (xs : List S76) (i : Nat) (hi : i ≤ xs.length) : (xs.flatMap enc).drop (i * 4) = (xs.drop i).flatMap enc := by
  have h := flat_len encL (xs.take i)
  conv => lhs; rw [← List.take_append_drop i xs, List.flatMap_append]
  rw [List.drop_left' (by rw [h, List.length_take, Nat.min_eq_left hi])]
/-- The two copies, in whichever order they come. -/
theorem twoA {cs : List Value} {xs : List S76} {i : Nat} {x : S76} (hi : i < xs.length) (hl : (xs.length + 1) * 4 ≤ cs.length) (ht : cs.take (i * 4) = (xs.take i).flatMap enc) : (wr (wr cs (i * 4) (enc x)) ((i + 1) * 4) ((xs.drop i).flatMap enc)).take ((xs.length + 1) * 4) = (insL xs i x).flatMap enc := by
  have hd : ((xs.drop i).flatMap enc).length = (xs.length - i) * 4 := by rw [flat_len encL, List.length_drop]
  have e4 : (enc x).length = 4 := rfl
  have hlw : (wr cs (i * 4) (enc x)).length = cs.length := wr_length (by omega)
  rw [seg (by rw [hlw, hd]; omega), seg (cs := cs) (by omega), List.take_append_of_le_length (by simp only [List.length_append, List.length_take, List.length_drop, hd, e4]; omega), List.take_of_length_le (by simp only [List.length_append, List.length_take, List.length_drop, hd, e4]; omega)]
  rw [List.take_append_of_le_length (by simp only [List.length_append, List.length_take, List.length_drop, e4]; omega), List.take_of_length_le (by simp only [List.length_append, List.length_take, List.length_drop, e4]; omega)]
  rw [ht]
  unfold insL
  rw [List.flatMap_append, List.flatMap_append]
  simp
theorem twoB {cs : List Value} {xs : List S76} {i : Nat} {x : S76} (hi : i < xs.length) (hl : (xs.length + 1) * 4 ≤ cs.length) (ht : cs.take (xs.length * 4) = xs.flatMap enc) : (wr (wr cs ((i + 1) * 4) ((xs.drop i).flatMap enc)) (i * 4) (enc x)).take ((xs.length + 1) * 4) = (insL xs i x).flatMap enc := by
  have hd : ((xs.drop i).flatMap enc).length = (xs.length - i) * 4 := by rw [flat_len encL, List.length_drop]
  have e4 : (enc x).length = 4 := rfl
  have ht2 : cs.take (i * 4) = (xs.take i).flatMap enc := by
    rw [← flatTake xs i (by omega), ← ht, List.take_take]
    congr 1
    omega
  rw [← twoA (x := x) hi hl ht2]
  congr 1
  have hlw : (wr cs ((i + 1) * 4) ((xs.drop i).flatMap enc)).length = cs.length := wr_length (by omega)
  have hlw2 : (wr cs (i * 4) (enc x)).length = cs.length := wr_length (by omega)
  apply List.ext_getElem?
  intro j
  rw [wr_get (cs := wr cs (i * 4) (enc x)) (by omega), wr_get (cs := cs) (off := i * 4) (by omega), wr_get (cs := wr cs ((i + 1) * 4) _) (by omega), wr_get (cs := cs) (off := (i + 1) * 4) (by omega), e4, hd]
  by_cases h1 : j < i * 4
  · rw [if_pos h1, if_pos (show j < (i + 1) * 4 by omega), if_pos (show j < (i + 1) * 4 by omega), if_pos h1]
  · rw [if_neg h1]
    by_cases h2 : j < i * 4 + 4
    · rw [if_pos h2, if_pos (show j < (i + 1) * 4 by omega), if_neg h1, if_pos h2]
    · rw [if_neg h2]
      by_cases h3 : j < (i + 1) * 4
      · omega
      · rw [if_neg h3, if_neg h3]
        split <;> first | rfl | rw [if_neg h1, if_neg h2]
theorem cellsV {gv : Nat} {x : S76} {W : World} (h : W.heap[gv]? = some (.cells (enc x).toArray 76 (0, 0))) : Cells W ⟨gv, 0, none⟩ (enc x) := by
  have := Box_cells h 0
  simpa using this
theorem cellsX {g i : Nat} {xs : List S76} {W : World} (h : Kd.C k76 W (some ⟨g, 0, none⟩) xs.length xs) (hi : i < xs.length) : Cells W ⟨g, i * 4, none⟩ ((xs.drop i).flatMap enc) := fun j u hu => by
  obtain ⟨ad, e, hcell⟩ := h.2.2 (by omega)
  injection e with e
  subst e
  rw [← flatDrop xs i (by omega), List.getElem?_drop, flat_get encL (by decide), Option.bind_eq_some_iff] at hu
  obtain ⟨p, hz, hu⟩ := hu
  obtain ⟨cs, c1, c2, c3⟩ := hcell ((i * 4 + j) / 4) p hz
  have c2' : cs = enc p := k76_open c2
  subst c2'
  have := c3 ((i * 4 + j) % 4) u hu
  rw [show (k76 : Kd S76).sz = 4 from rfl, Nat.div_add_mod'] at this
  have ea : (⟨g, i * 4, none⟩ : Addr).add j = (⟨g, 0, none⟩ : Addr).add (i * 4 + j) := by
    simp only [Addr.add]
    split <;> split <;> simp_all
  rw [ea]
  exact this
theorem cellsB {g i : Nat} {xs : List S76} {cs : List Value} {W : World} (h : W.heap[g]? = some (.cells cs.toArray 76 (0, 0))) (ht : cs.take (xs.length * 4) = xs.flatMap enc) (hi : i < xs.length) : Cells W ⟨g, i * 4, none⟩ ((xs.drop i).flatMap enc) := fun j u hu => by
  refine Box_cells h (i * 4) j u ?_
  rw [← flatDrop xs i (by omega), ← ht, List.getElem?_drop, List.getElem?_take] at hu
  rw [List.getElem?_drop]
  split at hu
  · exact hu
  · cases hu
theorem cnt1 {x : S76} {n i : Nat} (hi : i < n) : (enc x).length = Nat.min 1 (n + 1 - i) * 4 := by
  rw [show Nat.min 1 (n + 1 - i) = 1 from Nat.min_eq_left (by omega)]; rfl
theorem cnt2 {xs : List S76} {i : Nat} (hi : i < xs.length) : ((xs.drop i).flatMap enc).length = Nat.min (xs.length - i) (xs.length + 1 - (i + 1)) * 4 := by
  rw [flat_len encL, List.length_drop, show Nat.min (xs.length - i) (xs.length + 1 - (i + 1)) = xs.length - i from Nat.min_eq_left (by omega)]
theorem cnt3 {xs : List S76} {i : Nat} (hi : i < xs.length) : ((xs.drop i).flatMap enc).length = Nat.min (xs.length + 1 - i) (xs.length + 1 - (i + 1)) * 4 := by
  rw [flat_len encL, List.length_drop, show Nat.min (xs.length + 1 - i) (xs.length + 1 - (i + 1)) = xs.length - i from (Nat.min_eq_right (by omega)).trans (by omega)]
theorem fitA {x : S76} {cs : List Value} {n cap i : Nat} (h : n + 1 ≤ cap) (hl : cs.length = cap * 4) (hi : i < n) : i * 4 + (enc x).length ≤ cs.length := by
  have e4 : (enc x).length = 4 := rfl
  omega
theorem fitB {xs : List S76} {cs : List Value} {cap i : Nat} (h : xs.length + 1 ≤ cap) (hl : cs.length = cap * 4) (hi : i < xs.length) : (i + 1) * 4 + ((xs.drop i).flatMap enc).length ≤ cs.length := by
  have hd : ((xs.drop i).flatMap enc).length = (xs.length - i) * 4 := by rw [flat_len encL, List.length_drop]
  omega
theorem fitAB {xs : List S76} {x : S76} {cs : List Value} {cap i : Nat} (h : xs.length + 1 ≤ cap) (hl : cs.length = cap * 4) (hi : i < xs.length) : (i + 1) * 4 + ((xs.drop i).flatMap enc).length ≤ (wr cs (i * 4) (enc x)).length := by
  rw [wr_length (fitA h hl hi)]; exact fitB h hl hi
theorem fitBA {xs : List S76} {x : S76} {cs : List Value} {cap i : Nat} (h : xs.length + 1 ≤ cap) (hl : cs.length = cap * 4) (hi : i < xs.length) : i * 4 + (enc x).length ≤ (wr cs ((i + 1) * 4) ((xs.drop i).flatMap enc)).length := by
  rw [wr_length (fitB h hl hi)]; exact fitA h hl hi
theorem oneF (xs : List S76) : ∀ u ∈ xs.flatMap enc, u.oneCell' = true := fun u hu => by
  obtain ⟨p, _, hp⟩ := List.mem_flatMap.1 hu
  exact encO p u hp
theorem ovb : Try.f157.body.isNone = true := by kernel_rfl
theorem ovn : (Try.f157.name == "runtime.NumGoroutine") = false := by kernel_rfl
theorem ovx : Extern.findNext Try.f157 = none := by kernel_rfl
theorem ovf : Extern.find Try.f157 = some (Extern.SlicesOverlaps.overlaps #[65, 65] #[4]) := by kernel_rfl
set_option maxHeartbeats 4000000 in
/-- slices.Insert at the end. -/
theorem insEnd (xs : List S76) (x : S76) (A : Option Addr) (c cv gv : Nat) (w : World) (S : Nat → Prop) (hA : (Go.Proofs.YtkglpfdoefdhdaaW.SL.Item.row k76 76 0 (.slice A xs.length c) xs).p w S) (hb : xs.length ≤ 1048576) (hc : xs.length ≤ c) (hV : ∀ W, Aft (S) w W → W.heap[gv]? = some (.cells (enc x).toArray 76 (0, 0))) (ys : List S76) (hys : xs ++ [x] = ys) :
    Calls Try.prog 118 #[.slice A xs.length c, .int .i64 (xs.length : Int), .slice (some ⟨gv, 0, none⟩) 1 cv] w (fun e w' => ∃ A' c', e = .returned (.slice A' ys.length c') ∧ ys.length ≤ c' ∧ ∃ S', (Go.Proofs.YtkglpfdoefdhdaaW.SL.Item.row k76 76 0 (.slice A' ys.length c') ys).p w' S' ∧ (∀ k, S' k → k < w.heap.size → (S) k) ∧ Aft (S) w w') := by
  subst hys
  let Rr : Ending → World → Prop := fun e w' => ∃ A' c', e = .returned (.slice A' (xs ++ [x]).length c') ∧ (xs ++ [x]).length ≤ c' ∧ ∃ S', (Go.Proofs.YtkglpfdoefdhdaaW.SL.Item.row k76 76 0 (.slice A' (xs ++ [x]).length c') (xs ++ [x])).p w' S' ∧ (∀ k, S' k → k < w.heap.size → (S) k) ∧ Aft (S) w w'
  refine enterS (S := S) (args := [.slice A xs.length c, .int .i64 (xs.length : Int), .slice (some ⟨gv, 0, none⟩) 1 cv]) [.row k76 76 0 (.slice A xs.length c) xs] [(fun W : World => W.heap[gv]? = some (.cells (enc x).toArray 76 (0, 0))), (fun W : World => Kd.C k76 W (some ⟨gv, 0, none⟩) [x].length [x])] (Own.single hA) (fun q hq => by
    repeat (first
      | (rcases List.mem_cons.1 hq with rfl | hq; · first | exact fun W hW => hV W hW | exact fun W hW => ofBlk (hV W hW))
      | cases hq)) Try.func118 rfl rfl ?_
  show Cj Try.prog _ _ _ (bodyPost Try.prog Try.f118 Rr) _ _ _
  repeat (first
    | (apply gateO; first
      | refine Jl.yd (Y.mv rfl rfl) rfl rfl rfl ?_
      | refine Jl.yd (Y.asg rfl rfl) rfl rfl rfl ?_
      | refine Jl.yd (Y.ext rfl rfl rfl) rfl rfl rfl ?_
      | refine Jl.yd (Y.pickT rfl rfl rfl) rfl rfl rfl ?_
      | refine Jl.yd (Y.pickF rfl rfl rfl) rfl rfl rfl ?_
      | refine Jl.off rfl rfl rfl ?_
      | refine Jl.yd (Y.cmpF rfl rfl rfl rfl (by omega)) rfl rfl rfl ?_
      | refine Jl.yd (Y.cmpT rfl rfl rfl rfl (by omega)) rfl rfl rfl ?_
      | refine Jl.yd (Y.neqB rfl rfl rfl Try.underlying4) rfl rfl rfl ?_
      | refine Jl.yd (Y.cmp rfl rfl rfl rfl) rfl rfl rfl ?_
      | refine Jl.yd (Y.not rfl rfl) rfl rfl rfl ?_
      | refine Jl.yd (Y.arithN rfl rfl rfl rfl (by omega)) rfl rfl rfl ?_
      | refine Jl.yd (Y.arith64 rfl rfl rfl rfl) rfl rfl rfl ?_
      | refine Jl.yd (Y.lenS Try.underlying65 rfl rfl rfl) rfl rfl rfl ?_
      | refine Jl.yd (Y.sliFrom rfl rfl rfl el65 (by omega) (by omega)) rfl rfl rfl ?_
      | refine Jl.appF (dk := k76) (xs := xs) (zs := [x]) flat76 rfl rfl rfl rfl rfl rfl ap65 rfl (by repeat (first | exact memH | refine memT ?_)) (by repeat (first | exact .z | apply OutAt.s)) (by simp only [List.length_cons, List.length_nil]; omega) (by simp only [List.length_cons, List.length_nil]; omega) (fun A9 c9 h9 => ?_)
      | refine Jl.splitG rfl rfl (fun h => ?_) (fun h => ?_))
    | (apply gateE; first
      | refine Jl.nil (Ej.go ?_ (fun _ _ h => h))
      | (refine Jl.nil (Ej.back (fun _ _ h => h) (by repeat (first | exact .refl | apply DropTo.tail)) ?_); repeat (first | exact trivial | refine ⟨rfl, ?_⟩)))
    | (apply gateC; first
      | refine Cj.condF rfl rfl (Cj.skip rfl (Ej.go ?_ (fun _ _ h => h)))
      | (refine Cj.condF rfl rfl (Cj.skip rfl (Ej.back (fun _ _ h => h) (by repeat (first | exact .refl | apply DropTo.tail)) ?_)); repeat (first | exact trivial | refine ⟨rfl, ?_⟩))
      | refine Cj.condF rfl rfl ?_
      | refine Cj.condT rfl rfl ?_
      | refine Cj.exit rfl (Ej.go ?_ (fun _ _ h => h))
      | refine Cj.cond rfl rfl (fun h => ?_) (fun h => ?_)
      | refine Cj.skip rfl (Ej.go ?_ (fun _ _ h => h))
      | (refine Cj.skip rfl (Ej.back (fun _ _ h => h) (by repeat (first | exact .refl | apply DropTo.tail)) ?_); repeat (first | exact trivial | refine ⟨rfl, ?_⟩))
      | refine Cj.seq rfl ?_
      | refine Cj.region rfl ?_))
  refine Cj.ret rfl (Ej.out1 (P := Try.prog) (fn := Try.f118) (R := Rr) (fun _ _ h => h) rfl rfl (fun w' hW => ?_))
  exact outRow (hW.sub (fun p hp => by cases hp)) h9
set_option maxHeartbeats 4000000 in
/-- slices.Insert where there is no room. -/
theorem insGrow (xs : List S76) (x : S76) (i g c cv gv : Nat) (w : World) (S : Nat → Prop) (hA : (Go.Proofs.YtkglpfdoefdhdaaW.SL.Item.row k76 76 0 (.slice (some ⟨g, 0, none⟩) xs.length c) xs).p w S) (hb : xs.length ≤ 1048576) (hi : i < xs.length) (hc : xs.length ≤ c) (hfull : c < xs.length + 1) (hV : ∀ W, Aft (S) w W → W.heap[gv]? = some (.cells (enc x).toArray 76 (0, 0))) (ys : List S76) (hys : insL xs i x = ys) :
    Calls Try.prog 118 #[.slice (some ⟨g, 0, none⟩) xs.length c, .int .i64 (i : Int), .slice (some ⟨gv, 0, none⟩) 1 cv] w (fun e w' => ∃ A' c', e = .returned (.slice A' ys.length c') ∧ ys.length ≤ c' ∧ ∃ S', (Go.Proofs.YtkglpfdoefdhdaaW.SL.Item.row k76 76 0 (.slice A' ys.length c') ys).p w' S' ∧ (∀ k, S' k → k < w.heap.size → (S) k) ∧ Aft (S) w w') := by
  have hyl : ys.length = xs.length + 1 := by rw [← hys, insL_len x (by omega)]
  have hm1 := cnt1 (x := x) hi
  have hm2 := cnt2 hi
  let Rr : Ending → World → Prop := fun e w' => ∃ A' c', e = .returned (.slice A' ys.length c') ∧ ys.length ≤ c' ∧ ∃ S', (Go.Proofs.YtkglpfdoefdhdaaW.SL.Item.row k76 76 0 (.slice A' ys.length c') ys).p w' S' ∧ (∀ k, S' k → k < w.heap.size → (S) k) ∧ Aft (S) w w'
  refine enterS (S := S) (args := [.slice (some ⟨g, 0, none⟩) xs.length c, .int .i64 (i : Int), .slice (some ⟨gv, 0, none⟩) 1 cv]) [.row k76 76 0 (.slice (some ⟨g, 0, none⟩) xs.length c) xs] [(fun W : World => W.heap[gv]? = some (.cells (enc x).toArray 76 (0, 0))), (fun W : World => Kd.C k76 W (some ⟨gv, 0, none⟩) [x].length [x])] (Own.single hA) (fun q hq => by
    repeat (first
      | (rcases List.mem_cons.1 hq with rfl | hq; · first | exact fun W hW => hV W hW | exact fun W hW => ofBlk (hV W hW))
      | cases hq)) Try.func118 rfl rfl ?_
  show Cj Try.prog _ _ _ (bodyPost Try.prog Try.f118 Rr) _ _ _
  
  refine Cj.ws (ι := Unit) (fun _ => True) (fun _ => []) (fun _ => [(fun W : World => Kd.C k76 W (some ⟨g, 0, none⟩) xs.length xs), (fun W : World => W.heap[gv]? = some (.cells (enc x).toArray 76 (0, 0))), (fun W : World => Kd.C k76 W (some ⟨gv, 0, none⟩) [x].length [x])]) (fun w' hW => ⟨(), trivial, hW.freeze (n := 0) rfl (p := (fun W : World => Kd.C k76 W (some ⟨g, 0, none⟩) xs.length xs)) (fun W A' hA' => (Kd.R_reads' hA'.1).2.2)⟩) (fun _ _ => ?_)
  repeat (first
    | (apply gateO; first
      | refine Jl.yd (Y.mv rfl rfl) rfl rfl rfl ?_
      | refine Jl.yd (Y.asg rfl rfl) rfl rfl rfl ?_
      | refine Jl.yd (Y.ext rfl rfl rfl) rfl rfl rfl ?_
      | refine Jl.yd (Y.pickT rfl rfl rfl) rfl rfl rfl ?_
      | refine Jl.yd (Y.pickF rfl rfl rfl) rfl rfl rfl ?_
      | refine Jl.off rfl rfl rfl ?_
      | refine Jl.yd (Y.cmpF rfl rfl rfl rfl (by omega)) rfl rfl rfl ?_
      | refine Jl.yd (Y.cmpT rfl rfl rfl rfl (by omega)) rfl rfl rfl ?_
      | refine Jl.yd (Y.neqB rfl rfl rfl Try.underlying4) rfl rfl rfl ?_
      | refine Jl.yd (Y.cmp rfl rfl rfl rfl) rfl rfl rfl ?_
      | refine Jl.yd (Y.not rfl rfl) rfl rfl rfl ?_
      | refine Jl.yd (Y.arithN rfl rfl rfl rfl (by omega)) rfl rfl rfl ?_
      | refine Jl.yd (Y.arith64 rfl rfl rfl rfl) rfl rfl rfl ?_
      | refine Jl.yd (Y.lenS Try.underlying65 rfl rfl rfl) rfl rfl rfl ?_
      | refine Jl.appZ (dk := k76) (xs := xs) (n := i) (kn := xs.length + 1 - i) (nk := xs.length + 1) flat76 rfl rfl rfl rfl rfl rfl (by omega) (by omega) ap65 Try.underlying3 (by repeat (first | exact memH | refine memT ?_)) (by omega) (by omega) (by omega) (by omega) (by omega) (fun g2 cap cs2 z1 z2 z3 z4 => ?_)
      | refine Jl.yd (Y.sliceL rfl rfl rfl el65 (by omega) (by omega) (by omega)) rfl rfl rfl ?_
      | refine Jl.yd (Y.sliTo rfl rfl rfl el65 (by omega) (by omega)) rfl rfl rfl ?_
      | refine Jl.yd (Y.capS Try.underlying65 rfl rfl rfl) rfl rfl rfl ?_
      | refine Jl.copyB (g := g2) (off := i * 4) (nd := xs.length + 1 - i) (ad := ⟨gv, 0, none⟩) (enc x) rfl rfl rfl rfl rfl rfl el65 (by repeat (first | exact .head _ | refine .tail _ ?_)) (by repeat (first | exact .z | apply SetAt.s)) hm1 (fun w hW => cellsV (hW.fact (p := (fun W : World => W.heap[gv]? = some (.cells (enc x).toArray 76 (0, 0)))) (by repeat (first | exact memH | refine memT ?_)))) (fitA z1 z3 hi) (encO x) ?_
      | refine Jl.copyB (g := g2) (off := (i + 1) * 4) (nd := xs.length + 1 - (i + 1)) (ad := ⟨g, i * 4, none⟩) ((xs.drop i).flatMap enc) rfl rfl rfl rfl rfl rfl el65 (by repeat (first | exact .head _ | refine .tail _ ?_)) (by repeat (first | exact .z | apply SetAt.s)) hm2 (fun w hW => cellsX (hW.fact (p := (fun W : World => Kd.C k76 W (some ⟨g, 0, none⟩) xs.length xs)) (by repeat (first | exact memH | refine memT ?_))) hi) (fitAB z1 z3 hi) (oneF _) ?_
      | refine Jl.splitG rfl rfl (fun h => ?_) (fun h => ?_))
    | (apply gateE; first
      | refine Jl.nil (Ej.go ?_ (fun _ _ h => h))
      | (refine Jl.nil (Ej.back (fun _ _ h => h) (by repeat (first | exact .refl | apply DropTo.tail)) ?_); repeat (first | exact trivial | refine ⟨rfl, ?_⟩)))
    | (apply gateC; first
      | refine Cj.regionD rfl (mkD [0, 1, 2, 3, 4, 5, 6, 7] [8]) [8] [0, 1, 2, 3, 4, 5, 6, 7, 8] mixed (by decide +kernel) ?_
      | refine Cj.condF rfl rfl (Cj.skip rfl (Ej.go ?_ (fun _ _ h => h)))
      | (refine Cj.condF rfl rfl (Cj.skip rfl (Ej.back (fun _ _ h => h) (by repeat (first | exact .refl | apply DropTo.tail)) ?_)); repeat (first | exact trivial | refine ⟨rfl, ?_⟩))
      | refine Cj.condF rfl rfl ?_
      | refine Cj.condT rfl rfl ?_
      | refine Cj.exit rfl (Ej.go ?_ (fun _ _ h => h))
      | refine Cj.cond rfl rfl (fun h => ?_) (fun h => ?_)
      | refine Cj.skip rfl (Ej.go ?_ (fun _ _ h => h))
      | (refine Cj.skip rfl (Ej.back (fun _ _ h => h) (by repeat (first | exact .refl | apply DropTo.tail)) ?_); repeat (first | exact trivial | refine ⟨rfl, ?_⟩))
      | refine Cj.seq rfl ?_
      | refine Cj.region rfl ?_))
  refine Cj.ret rfl (Ej.out1 (P := Try.prog) (fn := Try.f118) (R := Rr) (fun _ _ h => h) rfl rfl (fun w' hW => ?_))
  have hfin := twoA (x := x) hi (by rw [z3]; omega) z4
  rw [hys] at hfin
  obtain ⟨S', h1, h2, h3⟩ := (hW.sub (ps' := []) (fun p hp => by cases hp)).end1
  rw [← hyl]
  refine ⟨some ⟨g2, 0, none⟩, cap, rfl, by omega, S', rowBox h1 rfl (by omega) z2 ?_ (by rw [hyl]; exact hfin), h2, h3⟩
  rw [wr_length (fitAB z1 z3 hi), wr_length (fitA z1 z3 hi)]; exact z3
set_option maxHeartbeats 4000000 in
/-- slices.Insert in place. -/
theorem insRoom (xs : List S76) (x : S76) (i g c cv gv : Nat) (cs : List Value) (w : World) (hh : w.heap[g]? = some (.cells cs.toArray 76 (0, 0))) (hcl : cs.length = c * 4) (hct : cs.take (xs.length * 4) = xs.flatMap enc) (hcm : c ≤ maxLen) (hb : xs.length ≤ 1048576) (hi : i < xs.length) (hroom : xs.length + 1 ≤ c) (hne : gv ≠ g) (hV : ∀ W, Aft (fun k => k = g) w W → W.heap[gv]? = some (.cells (enc x).toArray 76 (0, 0))) (ys : List S76) (hys : insL xs i x = ys) :
    Calls Try.prog 118 #[.slice (some ⟨g, 0, none⟩) xs.length c, .int .i64 (i : Int), .slice (some ⟨gv, 0, none⟩) 1 cv] w (fun e w' => ∃ A' c', e = .returned (.slice A' ys.length c') ∧ ys.length ≤ c' ∧ ∃ S', (Go.Proofs.YtkglpfdoefdhdaaW.SL.Item.row k76 76 0 (.slice A' ys.length c') ys).p w' S' ∧ (∀ k, S' k → k < w.heap.size → ((fun k => k = g)) k) ∧ Aft ((fun k => k = g)) w w') := by
  have hyl : ys.length = xs.length + 1 := by rw [← hys, insL_len x (by omega)]
  have hm1 := cnt1 (x := x) hi
  have hm3 := cnt3 hi
  have hcl0 : cs.length ≠ 0 := by omega
  let Rr : Ending → World → Prop := fun e w' => ∃ A' c', e = .returned (.slice A' ys.length c') ∧ ys.length ≤ c' ∧ ∃ S', (Go.Proofs.YtkglpfdoefdhdaaW.SL.Item.row k76 76 0 (.slice A' ys.length c') ys).p w' S' ∧ (∀ k, S' k → k < w.heap.size → (fun k => k = g) k) ∧ Aft (fun k => k = g) w w'
  refine enterS (S := fun k => k = g) (args := [.slice (some ⟨g, 0, none⟩) xs.length c, .int .i64 (i : Int), .slice (some ⟨gv, 0, none⟩) 1 cv]) [.box g 76 cs] [(fun W : World => W.heap[gv]? = some (.cells (enc x).toArray 76 (0, 0)))] (Own.single ⟨hh, fun k => Iff.rfl⟩) (fun q hq => by
    repeat (first
      | (rcases List.mem_cons.1 hq with rfl | hq; · first | exact fun W hW => hV W hW | exact fun W hW => ofBlk (hV W hW))
      | cases hq)) Try.func118 rfl rfl ?_
  show Cj Try.prog _ _ _ (bodyPost Try.prog Try.f118 Rr) _ _ _
  repeat (first
    | (apply gateO; first
      | refine Jl.yd (Y.mv rfl rfl) rfl rfl rfl ?_
      | refine Jl.yd (Y.asg rfl rfl) rfl rfl rfl ?_
      | refine Jl.yd (Y.ext rfl rfl rfl) rfl rfl rfl ?_
      | refine Jl.yd (Y.pickT rfl rfl rfl) rfl rfl rfl ?_
      | refine Jl.yd (Y.pickF rfl rfl rfl) rfl rfl rfl ?_
      | refine Jl.off rfl rfl rfl ?_
      | refine Jl.yd (Y.cmpF rfl rfl rfl rfl (by omega)) rfl rfl rfl ?_
      | refine Jl.yd (Y.cmpT rfl rfl rfl rfl (by omega)) rfl rfl rfl ?_
      | refine Jl.yd (Y.neqB rfl rfl rfl Try.underlying4) rfl rfl rfl ?_
      | refine Jl.yd (Y.cmp rfl rfl rfl rfl) rfl rfl rfl ?_
      | refine Jl.yd (Y.not rfl rfl) rfl rfl rfl ?_
      | refine Jl.yd (Y.arithN rfl rfl rfl rfl (by omega)) rfl rfl rfl ?_
      | refine Jl.yd (Y.arith64 rfl rfl rfl rfl) rfl rfl rfl ?_
      | refine Jl.yd (Y.lenS Try.underlying65 rfl rfl rfl) rfl rfl rfl ?_
      | refine Jl.yd (Y.apart rfl Try.func157 ovn ovb ovx ovf el65 rfl rfl hne (by repeat (first | exact .head _ | refine .tail _ ?_)) hcl0 (by repeat (first | exact memH | refine memT ?_))) rfl rfl rfl ?_
      | refine Jl.yd (Y.sliceL rfl rfl rfl el65 (by omega) (by omega) (by omega)) rfl rfl rfl ?_
      | refine Jl.yd (Y.sliTo rfl rfl rfl el65 (by omega) (by omega)) rfl rfl rfl ?_
      | refine Jl.yd (Y.capS Try.underlying65 rfl rfl rfl) rfl rfl rfl ?_
      | refine Jl.copyB (g := g) (off := (i + 1) * 4) (nd := xs.length + 1 - (i + 1)) (ad := ⟨g, i * 4, none⟩) ((xs.drop i).flatMap enc) rfl rfl rfl rfl rfl rfl el65 (by repeat (first | exact .head _ | refine .tail _ ?_)) (by repeat (first | exact .z | apply SetAt.s)) hm3 (fun w hW => cellsB (Box_at hW (by repeat (first | exact .head _ | refine .tail _ ?_))) hct hi) (fitB hroom hcl hi) (oneF _) ?_
      | refine Jl.copyB (g := g) (off := i * 4) (nd := xs.length + 1 - i) (ad := ⟨gv, 0, none⟩) (enc x) rfl rfl rfl rfl rfl rfl el65 (by repeat (first | exact .head _ | refine .tail _ ?_)) (by repeat (first | exact .z | apply SetAt.s)) hm1 (fun w hW => cellsV (hW.fact (p := (fun W : World => W.heap[gv]? = some (.cells (enc x).toArray 76 (0, 0)))) (by repeat (first | exact memH | refine memT ?_)))) (fitBA hroom hcl hi) (encO x) ?_
      | refine Jl.splitG rfl rfl (fun h => ?_) (fun h => ?_))
    | (apply gateE; first
      | refine Jl.nil (Ej.go ?_ (fun _ _ h => h))
      | (refine Jl.nil (Ej.back (fun _ _ h => h) (by repeat (first | exact .refl | apply DropTo.tail)) ?_); repeat (first | exact trivial | refine ⟨rfl, ?_⟩)))
    | (apply gateC; first
      | refine Cj.regionD rfl (mkD [0, 1, 2, 3, 4, 5, 6, 7] [8]) [8] [0, 1, 2, 3, 4, 5, 6, 7, 8] mixed (by decide +kernel) ?_
      | refine Cj.condF rfl rfl (Cj.skip rfl (Ej.go ?_ (fun _ _ h => h)))
      | (refine Cj.condF rfl rfl (Cj.skip rfl (Ej.back (fun _ _ h => h) (by repeat (first | exact .refl | apply DropTo.tail)) ?_)); repeat (first | exact trivial | refine ⟨rfl, ?_⟩))
      | refine Cj.condF rfl rfl ?_
      | refine Cj.condT rfl rfl ?_
      | refine Cj.exit rfl (Ej.go ?_ (fun _ _ h => h))
      | refine Cj.cond rfl rfl (fun h => ?_) (fun h => ?_)
      | refine Cj.skip rfl (Ej.go ?_ (fun _ _ h => h))
      | (refine Cj.skip rfl (Ej.back (fun _ _ h => h) (by repeat (first | exact .refl | apply DropTo.tail)) ?_); repeat (first | exact trivial | refine ⟨rfl, ?_⟩))
      | refine Cj.seq rfl ?_
      | refine Cj.region rfl ?_))
  refine Cj.ret rfl (Ej.out1 (P := Try.prog) (fn := Try.f118) (R := Rr) (fun _ _ h => h) rfl rfl (fun w' hW => ?_))
  have hfin := twoB (x := x) hi (by omega) hct
  rw [hys] at hfin
  obtain ⟨S', h1, h2, h3⟩ := (hW.sub (ps' := []) (fun p hp => by cases hp)).end1
  rw [show ((xs.length : Int) + ((1 : Nat) : Int)).toNat = ys.length by omega]
  refine ⟨some ⟨g, 0, none⟩, c, rfl, by omega, S', rowBox h1 rfl (by omega) hcm ?_ (by rw [hyl]; exact hfin), h2, h3⟩
  rw [wr_length (fitBA hroom hcl hi), wr_length (fitB hroom hcl hi)]; exact hcl

/-- slices.Insert of one record. -/
theorem insert_ (xs : List S76) (x : S76) (i : Nat) (A : Option Addr) (c cv gv : Nat) (w : World) (S : Nat → Prop) (hA : (Go.Proofs.YtkglpfdoefdhdaaW.SL.Item.row k76 76 0 (.slice A xs.length c) xs).p w S) (hb : xs.length ≤ 1048576) (hi : i ≤ xs.length) (hV : ∀ W, Aft (S) w W → W.heap[gv]? = some (.cells (enc x).toArray 76 (0, 0))) :
    Calls Try.prog 118 #[.slice A xs.length c, .int .i64 (i : Int), .slice (some ⟨gv, 0, none⟩) 1 cv] w (fun e w' => ∃ A' c', e = .returned (.slice A' (insL xs i x).length c') ∧ (insL xs i x).length ≤ c' ∧ ∃ S', (Go.Proofs.YtkglpfdoefdhdaaW.SL.Item.row k76 76 0 (.slice A' (insL xs i x).length c') (insL xs i x)).p w' S' ∧ (∀ k, S' k → k < w.heap.size → (S) k) ∧ Aft (S) w w') := by
  have hgv := notIn hV (by simp [enc])
  obtain ⟨q0, hl, hown⟩ := (row_F flat76).1 hA.1
  by_cases hin : i = xs.length
  · have hc : xs.length ≤ c := by
      rcases hown with ⟨e, e2⟩ | ⟨g, cap, cur, e, _, _, h3, _⟩
      · rw [e2]; exact Nat.zero_le _
      · injection e with _ _ e; omega
    rw [hin]
    exact insEnd xs x A c cv gv w S hA hb hc hV _ (by unfold insL; rw [List.take_length, List.drop_length, List.append_nil])
  · rcases hown with ⟨e, e2⟩ | ⟨g, cap, cur, e, h1, h2, h3, h4, h5, h6⟩
    · omega
    · simp only [Value.slice.injEq] at e
      obtain ⟨rfl, _, rfl⟩ := e
      by_cases hroom : xs.length + 1 ≤ c
      · have hSg : S g := q0 g rfl
        have hne : gv ≠ g := fun h => hgv (h ▸ hSg)
        refine (insRoom xs x i g c cv gv cur.toList w (by simpa using h2) (by simpa using h5) h6 h4 hb (by omega) hroom hne (fun W ha => hV W ⟨ha.os, ha.tape, ha.output, ha.size, fun k hk hn => ha.block k hk (fun e => hn (e ▸ hSg))⟩) _ rfl).mono ?_
        rintro e w' ⟨A', c', g1, g2, S', g3, g4, g5⟩
        exact ⟨A', c', g1, g2, S', g3, fun k hk hlt => (g4 k hk hlt) ▸ hSg, ⟨g5.os, g5.tape, g5.output, g5.size, fun k hk hn => g5.block k hk (fun e => hn (e ▸ hSg))⟩⟩
      · exact insGrow xs x i g c cv gv w S hA hb (by omega) h3 (by omega) hV _ rfl
set_option maxHeartbeats 4000000 in
/-- slices.BinarySearchFunc: the place that splits the row. -/
theorem bsearch (xs : List S76) (x : S76) (cf : S76 → Int) (K : Nat) (fd : Bool) (A : Option Addr) (c : Nat) (w : World) (hr : Kd.C k76 w A xs.length xs) (hc : xs.length ≤ c) (hb : xs.length ≤ 1048576) (hK : K ≤ xs.length) (h1 : ∀ t, t < K → cf (nth xs t z76) < 0) (h2 : ∀ t, K ≤ t → t < xs.length → 0 ≤ cf (nth xs t z76))
    (hfd : fd = (decide (K < xs.length) && decide (cf (nth xs K z76) = 0))) (hcmp : ∀ y W, Calls Try.prog 117 #[.agg (enc y).toArray, .agg (enc x).toArray] W fun e w' => e = .returned (.int .i64 (cf y)) ∧ Below W.heap.size W w') :
    Calls Try.prog 116 #[.slice A xs.length c, .agg (enc x).toArray, .func (.func 117) #[] #[]] w fun e w' => e = .returned (.tuple #[.int .i64 (K : Int), .bool fd]) ∧ Below w.heap.size w w' := by
  let Rr : Ending → World → Prop := fun e w' => e = .returned (.tuple #[.int .i64 (K : Int), .bool fd]) ∧ Below w.heap.size w w'
  refine enterW (args := [.slice A xs.length c, .agg (enc x).toArray, .func (.func 117) #[] #[]]) [(fun W : World => Kd.C k76 W A xs.length xs)] (fun p hp W hb => by rw [List.mem_singleton.1 hp]; exact Kd.C_below hr hb) Try.func116 rfl rfl ?_
  show Cj Try.prog _ _ _ (bodyPost Try.prog Try.f116 Rr) _ _ _
  repeat (first
    | (apply gateO; first
      | refine Jl.yd (Y.mv rfl rfl) rfl rfl rfl ?_
      | refine Jl.yd (Y.asg rfl rfl) rfl rfl rfl ?_
      | refine Jl.yd (Y.ext rfl rfl rfl) rfl rfl rfl ?_
      | refine Jl.yd (Y.pickT rfl rfl rfl) rfl rfl rfl ?_
      | refine Jl.yd (Y.pickF rfl rfl rfl) rfl rfl rfl ?_
      | refine Jl.off rfl rfl rfl ?_
      | refine Jl.yd (Y.cmpF rfl rfl rfl rfl (by omega)) rfl rfl rfl ?_
      | refine Jl.yd (Y.cmpT rfl rfl rfl rfl (by omega)) rfl rfl rfl ?_
      | refine Jl.yd (Y.neqB rfl rfl rfl Try.underlying4) rfl rfl rfl ?_
      | refine Jl.yd (Y.cmp rfl rfl rfl rfl) rfl rfl rfl ?_
      | refine Jl.yd (Y.not rfl rfl) rfl rfl rfl ?_
      | refine Jl.yd (Y.arithN rfl rfl rfl rfl (by omega)) rfl rfl rfl ?_
      | refine Jl.yd (Y.arith64 rfl rfl rfl rfl) rfl rfl rfl ?_
      | refine Jl.yd (Y.lenS Try.underlying65 rfl rfl rfl) rfl rfl rfl ?_
      | refine Jl.box (zs := enc x) rfl rfl rfl rfl rfl (by rfl) (fun gt => ?_)
      | refine Jl.splitG rfl rfl (fun h => ?_) (fun h => ?_))
    | (apply gateE; first
      | refine Jl.nil (Ej.go ?_ (fun _ _ h => h))
      | (refine Jl.nil (Ej.back (fun _ _ h => h) (by repeat (first | exact .refl | apply DropTo.tail)) ?_); repeat (first | exact trivial | refine ⟨rfl, ?_⟩)))
    | (apply gateC; first
      | refine Cj.block rfl ?_
      | refine Cj.condF rfl rfl (Cj.skip rfl (Ej.go ?_ (fun _ _ h => h)))
      | (refine Cj.condF rfl rfl (Cj.skip rfl (Ej.back (fun _ _ h => h) (by repeat (first | exact .refl | apply DropTo.tail)) ?_)); repeat (first | exact trivial | refine ⟨rfl, ?_⟩))
      | refine Cj.condF rfl rfl ?_
      | refine Cj.condT rfl rfl ?_
      | refine Cj.exit rfl (Ej.go ?_ (fun _ _ h => h))
      | refine Cj.cond rfl rfl (fun h => ?_) (fun h => ?_)
      | refine Cj.skip rfl (Ej.go ?_ (fun _ _ h => h))
      | (refine Cj.skip rfl (Ej.back (fun _ _ h => h) (by repeat (first | exact .refl | apply DropTo.tail)) ?_); repeat (first | exact trivial | refine ⟨rfl, ?_⟩))
      | refine Cj.seq rfl ?_
      | refine Cj.region rfl ?_))
  refine Cj.loopP (ι := Nat × Nat) (fun q => q.1 ≤ K ∧ K ≤ q.2 ∧ q.2 ≤ xs.length) (fun q => [(0, .slice A xs.length c), (2, .func (.func 117) #[] #[]), (4, .pointer (some ⟨gt, 0, none⟩)), (8, .int .i64 (xs.length : Int)), (9, .int .i64 (q.1 : Int)), (10, .int .i64 (q.2 : Int))]) (fun _ => [.box gt 76 (enc x)]) (fun _ => [(fun W : World => Kd.C k76 W A xs.length xs)]) (fun q => q.2 - q.1) rfl (0, xs.length) ⟨Nat.zero_le _, hK, Nat.le_refl _⟩ ⟨rfl, rfl, rfl, rfl, rfl, rfl, trivial⟩ (by repeat (first | exact .nil | refine Pick.cons (by repeat (first | exact .z | apply OutAt.s)) ?_)) (fun p hp => hp) (fun q hq => ?_)
  obtain ⟨lo, hi⟩ := q
  dsimp only at hq ⊢
  obtain ⟨hlo, hhi, hn⟩ := hq
  by_cases hlt : lo < hi
  · obtain ⟨ad, rfl, _⟩ := hr.2.2 (by omega)
    obtain ⟨m, hm⟩ : ∃ m : Nat, (lo + hi) / 2 = m := ⟨_, rfl⟩
    obtain ⟨y, hy⟩ : ∃ y, nth xs m z76 = y := ⟨_, rfl⟩
    have huy : enc (xs.getD ((m : Nat) : Int).toNat z76) = enc y := by
      have hx2 : xs.getD m z76 = y := hy
      rw [Int.toNat_natCast, hx2]
    by_cases hmK : m < K
    · have hcy : cf y < 0 := hy ▸ h1 m hmK
      repeat (first
    | (apply gateO; first
      | refine Jl.yd (Y.mv rfl rfl) rfl rfl rfl ?_
      | refine Jl.yd (Y.asg rfl rfl) rfl rfl rfl ?_
      | refine Jl.yd (Y.ext rfl rfl rfl) rfl rfl rfl ?_
      | refine Jl.yd (Y.pickT rfl rfl rfl) rfl rfl rfl ?_
      | refine Jl.yd (Y.pickF rfl rfl rfl) rfl rfl rfl ?_
      | refine Jl.off rfl rfl rfl ?_
      | refine Jl.yd (Y.cmpF rfl rfl rfl rfl (by omega)) rfl rfl rfl ?_
      | refine Jl.yd (Y.cmpT rfl rfl rfl rfl (by omega)) rfl rfl rfl ?_
      | refine Jl.yd (Y.neqB rfl rfl rfl Try.underlying4) rfl rfl rfl ?_
      | refine Jl.yd (Y.cmp rfl rfl rfl rfl) rfl rfl rfl ?_
      | refine Jl.yd (Y.not rfl rfl) rfl rfl rfl ?_
      | refine Jl.yd (Y.arithN rfl rfl rfl rfl (by omega)) rfl rfl rfl ?_
      | refine Jl.yd (Y.arith64 rfl rfl rfl rfl) rfl rfl rfl ?_
      | refine Jl.yd (Y.idx rfl rfl rfl el65 (by omega) (by omega)) rfl rfl rfl ?_
      | refine Jl.yd (Y.loadK z76 (enc y) rfl rfl agg76 (by repeat (first | exact memH | refine memT ?_)) ((m : Nat) : Int) (by omega) (by omega) (by rfl) (fun w cs h => (k76_open h).trans huy) (by rfl)) rfl rfl rfl ?_
      | refine Jl.yd (Y.loadA rfl rfl agg76 (by repeat (first | exact .head _ | refine .tail _ ?_)) (by rfl)) rfl rfl rfl ?_
      | refine Jl.callc (v := .int .i64 (cf y)) rfl rfl rfl rfl rfl en117 rfl (fun w hW => by simp only [Array.empty_append, Array.append_empty]; exact hcmp y w) ?_
      | refine Jl.yd (Y.shrU (q := ((m : Nat) : Int)) rfl rfl rfl (by omega)) rfl rfl rfl ?_
      | refine Jl.yd (Y.convU rfl rfl Try.underlying3 Try.underlying150 (by omega) (by omega)) rfl rfl rfl ?_
      | refine Jl.yd (Y.convS rfl rfl Try.underlying150 Try.underlying3 (by omega) (by omega)) rfl rfl rfl ?_
      | refine Jl.splitG rfl rfl (fun h => ?_) (fun h => ?_))
    | (apply gateE; first
      | refine Jl.nil (Ej.go ?_ (fun _ _ h => h))
      | (refine Jl.nil (Ej.back (fun _ _ h => h) (by repeat (first | exact .refl | apply DropTo.tail)) ?_); repeat (first | exact trivial | refine ⟨rfl, ?_⟩)))
    | (apply gateC; first
      | refine Cj.block rfl ?_
      | refine Cj.regionD rfl (mkD [0, 1, 2, 3, 4, 5, 7] []) [] [0, 1, 2, 3, 4, 5, 6, 7] mixed (by decide +kernel) ?_
      | refine Cj.condF rfl rfl (Cj.skip rfl (Ej.go ?_ (fun _ _ h => h)))
      | (refine Cj.condF rfl rfl (Cj.skip rfl (Ej.back (fun _ _ h => h) (by repeat (first | exact .refl | apply DropTo.tail)) ?_)); repeat (first | exact trivial | refine ⟨rfl, ?_⟩))
      | refine Cj.condF rfl rfl ?_
      | refine Cj.condT rfl rfl ?_
      | refine Cj.exit rfl (Ej.go ?_ (fun _ _ h => h))
      | refine Cj.cond rfl rfl (fun h => ?_) (fun h => ?_)
      | refine Cj.skip rfl (Ej.go ?_ (fun _ _ h => h))
      | (refine Cj.skip rfl (Ej.back (fun _ _ h => h) (by repeat (first | exact .refl | apply DropTo.tail)) ?_); repeat (first | exact trivial | refine ⟨rfl, ?_⟩))
      | refine Cj.seq rfl ?_
      | refine Cj.region rfl ?_))
      refine Jl.nil (Ej.cutP (ι := Nat × Nat) _ _ _ _ (fun _ _ h => h) (m + 1, hi) ⟨⟨by dsimp only; omega, by dsimp only; omega, by dsimp only; omega⟩, by dsimp only; omega⟩ ⟨rfl, rfl, rfl, rfl, rfl, rfl, trivial⟩ (by repeat (first | exact .nil | refine Pick.cons (by repeat (first | exact .z | apply OutAt.s)) ?_)) (fun p hp => hp))
    · have hcy : 0 ≤ cf y := hy ▸ h2 m (by omega) (by omega)
      repeat (first
    | (apply gateO; first
      | refine Jl.yd (Y.mv rfl rfl) rfl rfl rfl ?_
      | refine Jl.yd (Y.asg rfl rfl) rfl rfl rfl ?_
      | refine Jl.yd (Y.ext rfl rfl rfl) rfl rfl rfl ?_
      | refine Jl.yd (Y.pickT rfl rfl rfl) rfl rfl rfl ?_
      | refine Jl.yd (Y.pickF rfl rfl rfl) rfl rfl rfl ?_
      | refine Jl.off rfl rfl rfl ?_
      | refine Jl.yd (Y.cmpF rfl rfl rfl rfl (by omega)) rfl rfl rfl ?_
      | refine Jl.yd (Y.cmpT rfl rfl rfl rfl (by omega)) rfl rfl rfl ?_
      | refine Jl.yd (Y.neqB rfl rfl rfl Try.underlying4) rfl rfl rfl ?_
      | refine Jl.yd (Y.cmp rfl rfl rfl rfl) rfl rfl rfl ?_
      | refine Jl.yd (Y.not rfl rfl) rfl rfl rfl ?_
      | refine Jl.yd (Y.arithN rfl rfl rfl rfl (by omega)) rfl rfl rfl ?_
      | refine Jl.yd (Y.arith64 rfl rfl rfl rfl) rfl rfl rfl ?_
      | refine Jl.yd (Y.idx rfl rfl rfl el65 (by omega) (by omega)) rfl rfl rfl ?_
      | refine Jl.yd (Y.loadK z76 (enc y) rfl rfl agg76 (by repeat (first | exact memH | refine memT ?_)) ((m : Nat) : Int) (by omega) (by omega) (by rfl) (fun w cs h => (k76_open h).trans huy) (by rfl)) rfl rfl rfl ?_
      | refine Jl.yd (Y.loadA rfl rfl agg76 (by repeat (first | exact .head _ | refine .tail _ ?_)) (by rfl)) rfl rfl rfl ?_
      | refine Jl.callc (v := .int .i64 (cf y)) rfl rfl rfl rfl rfl en117 rfl (fun w hW => by simp only [Array.empty_append, Array.append_empty]; exact hcmp y w) ?_
      | refine Jl.yd (Y.shrU (q := ((m : Nat) : Int)) rfl rfl rfl (by omega)) rfl rfl rfl ?_
      | refine Jl.yd (Y.convU rfl rfl Try.underlying3 Try.underlying150 (by omega) (by omega)) rfl rfl rfl ?_
      | refine Jl.yd (Y.convS rfl rfl Try.underlying150 Try.underlying3 (by omega) (by omega)) rfl rfl rfl ?_
      | refine Jl.splitG rfl rfl (fun h => ?_) (fun h => ?_))
    | (apply gateE; first
      | refine Jl.nil (Ej.go ?_ (fun _ _ h => h))
      | (refine Jl.nil (Ej.back (fun _ _ h => h) (by repeat (first | exact .refl | apply DropTo.tail)) ?_); repeat (first | exact trivial | refine ⟨rfl, ?_⟩)))
    | (apply gateC; first
      | refine Cj.block rfl ?_
      | refine Cj.regionD rfl (mkD [0, 1, 2, 3, 4, 5, 7] []) [] [0, 1, 2, 3, 4, 5, 6, 7] mixed (by decide +kernel) ?_
      | refine Cj.condF rfl rfl (Cj.skip rfl (Ej.go ?_ (fun _ _ h => h)))
      | (refine Cj.condF rfl rfl (Cj.skip rfl (Ej.back (fun _ _ h => h) (by repeat (first | exact .refl | apply DropTo.tail)) ?_)); repeat (first | exact trivial | refine ⟨rfl, ?_⟩))
      | refine Cj.condF rfl rfl ?_
      | refine Cj.condT rfl rfl ?_
      | refine Cj.exit rfl (Ej.go ?_ (fun _ _ h => h))
      | refine Cj.cond rfl rfl (fun h => ?_) (fun h => ?_)
      | refine Cj.skip rfl (Ej.go ?_ (fun _ _ h => h))
      | (refine Cj.skip rfl (Ej.back (fun _ _ h => h) (by repeat (first | exact .refl | apply DropTo.tail)) ?_); repeat (first | exact trivial | refine ⟨rfl, ?_⟩))
      | refine Cj.seq rfl ?_
      | refine Cj.region rfl ?_))
      refine Jl.nil (Ej.cutP (ι := Nat × Nat) _ _ _ _ (fun _ _ h => h) (lo, m) ⟨⟨by dsimp only; omega, by dsimp only; omega, by dsimp only; omega⟩, by dsimp only; omega⟩ ⟨rfl, rfl, rfl, rfl, rfl, rfl, trivial⟩ (by repeat (first | exact .nil | refine Pick.cons (by repeat (first | exact .z | apply OutAt.s)) ?_)) (fun p hp => hp))
  · obtain rfl : lo = K := by omega
    obtain rfl : hi = lo := by omega
    by_cases hKn : hi < xs.length
    · obtain ⟨ad, rfl, _⟩ := hr.2.2 (by omega)
      obtain ⟨y, hy⟩ : ∃ y, nth xs hi z76 = y := ⟨_, rfl⟩
      have huy : enc (xs.getD ((hi : Nat) : Int).toNat z76) = enc y := by
        have hx2 : xs.getD hi z76 = y := hy
        rw [Int.toNat_natCast, hx2]
      rw [hy, decide_eq_true hKn, Bool.true_and] at hfd
      subst hfd
      repeat (first
    | (apply gateO; first
      | refine Jl.yd (Y.mv rfl rfl) rfl rfl rfl ?_
      | refine Jl.yd (Y.asg rfl rfl) rfl rfl rfl ?_
      | refine Jl.yd (Y.ext rfl rfl rfl) rfl rfl rfl ?_
      | refine Jl.yd (Y.pickT rfl rfl rfl) rfl rfl rfl ?_
      | refine Jl.yd (Y.pickF rfl rfl rfl) rfl rfl rfl ?_
      | refine Jl.off rfl rfl rfl ?_
      | refine Jl.yd (Y.cmpF rfl rfl rfl rfl (by omega)) rfl rfl rfl ?_
      | refine Jl.yd (Y.cmpT rfl rfl rfl rfl (by omega)) rfl rfl rfl ?_
      | refine Jl.yd (Y.neqB rfl rfl rfl Try.underlying4) rfl rfl rfl ?_
      | refine Jl.yd (Y.cmp rfl rfl rfl rfl) rfl rfl rfl ?_
      | refine Jl.yd (Y.not rfl rfl) rfl rfl rfl ?_
      | refine Jl.yd (Y.arithN rfl rfl rfl rfl (by omega)) rfl rfl rfl ?_
      | refine Jl.yd (Y.arith64 rfl rfl rfl rfl) rfl rfl rfl ?_
      | refine Jl.yd (Y.idx rfl rfl rfl el65 (by omega) (by omega)) rfl rfl rfl ?_
      | refine Jl.yd (Y.loadK z76 (enc y) rfl rfl agg76 (by repeat (first | exact memH | refine memT ?_)) ((hi : Nat) : Int) (by omega) (by omega) (by rfl) (fun w cs h => (k76_open h).trans huy) (by rfl)) rfl rfl rfl ?_
      | refine Jl.yd (Y.loadA rfl rfl agg76 (by repeat (first | exact .head _ | refine .tail _ ?_)) (by rfl)) rfl rfl rfl ?_
      | refine Jl.callc (v := .int .i64 (cf y)) rfl rfl rfl rfl rfl en117 rfl (fun w hW => by simp only [Array.empty_append, Array.append_empty]; exact hcmp y w) ?_
      | refine Jl.splitG rfl rfl (fun h => ?_) (fun h => ?_))
    | (apply gateE; first
      | refine Jl.nil (Ej.go ?_ (fun _ _ h => h))
      | (refine Jl.nil (Ej.back (fun _ _ h => h) (by repeat (first | exact .refl | apply DropTo.tail)) ?_); repeat (first | exact trivial | refine ⟨rfl, ?_⟩)))
    | (apply gateC; first
      | refine Cj.block rfl ?_
      | refine Cj.regionD rfl (mkD [0, 1, 2, 3, 4, 5, 6, 7, 8, 9, 10, 12, 13, 14, 15] []) [] [0, 1, 2, 3, 4, 5, 6, 7, 8, 9, 10, 11, 12, 13, 14, 15] mixed (by decide +kernel) ?_
      | refine Cj.condF rfl rfl (Cj.skip rfl (Ej.go ?_ (fun _ _ h => h)))
      | (refine Cj.condF rfl rfl (Cj.skip rfl (Ej.back (fun _ _ h => h) (by repeat (first | exact .refl | apply DropTo.tail)) ?_)); repeat (first | exact trivial | refine ⟨rfl, ?_⟩))
      | refine Cj.condF rfl rfl ?_
      | refine Cj.condT rfl rfl ?_
      | refine Cj.exit rfl (Ej.go ?_ (fun _ _ h => h))
      | refine Cj.cond rfl rfl (fun h => ?_) (fun h => ?_)
      | refine Cj.skip rfl (Ej.go ?_ (fun _ _ h => h))
      | (refine Cj.skip rfl (Ej.back (fun _ _ h => h) (by repeat (first | exact .refl | apply DropTo.tail)) ?_); repeat (first | exact trivial | refine ⟨rfl, ?_⟩))
      | refine Cj.seq rfl ?_
      | refine Cj.region rfl ?_))
      refine Cj.ret rfl (Ej.out2 (P := Try.prog) (fn := Try.f116) (R := Rr) (fun _ _ h => h) rfl rfl rfl (fun w' hW => ⟨rfl, hW.below⟩))
    · rw [decide_eq_false hKn, Bool.false_and] at hfd
      subst hfd
      repeat (first
    | (apply gateO; first
      | refine Jl.yd (Y.mv rfl rfl) rfl rfl rfl ?_
      | refine Jl.yd (Y.asg rfl rfl) rfl rfl rfl ?_
      | refine Jl.yd (Y.ext rfl rfl rfl) rfl rfl rfl ?_
      | refine Jl.yd (Y.pickT rfl rfl rfl) rfl rfl rfl ?_
      | refine Jl.yd (Y.pickF rfl rfl rfl) rfl rfl rfl ?_
      | refine Jl.off rfl rfl rfl ?_
      | refine Jl.yd (Y.cmpF rfl rfl rfl rfl (by omega)) rfl rfl rfl ?_
      | refine Jl.yd (Y.cmpT rfl rfl rfl rfl (by omega)) rfl rfl rfl ?_
      | refine Jl.yd (Y.neqB rfl rfl rfl Try.underlying4) rfl rfl rfl ?_
      | refine Jl.yd (Y.cmp rfl rfl rfl rfl) rfl rfl rfl ?_
      | refine Jl.yd (Y.not rfl rfl) rfl rfl rfl ?_
      | refine Jl.yd (Y.arithN rfl rfl rfl rfl (by omega)) rfl rfl rfl ?_
      | refine Jl.yd (Y.arith64 rfl rfl rfl rfl) rfl rfl rfl ?_
      | refine Jl.yd (Y.idx rfl rfl rfl el65 (by omega) (by omega)) rfl rfl rfl ?_
      | refine Jl.yd (Y.loadA rfl rfl agg76 (by repeat (first | exact .head _ | refine .tail _ ?_)) (by rfl)) rfl rfl rfl ?_
      | refine Jl.callc (v := .int .i64 (cf y)) rfl rfl rfl rfl rfl en117 rfl (fun w hW => by simp only [Array.empty_append, Array.append_empty]; exact hcmp y w) ?_
      | refine Jl.splitG rfl rfl (fun h => ?_) (fun h => ?_))
    | (apply gateE; first
      | refine Jl.nil (Ej.go ?_ (fun _ _ h => h))
      | (refine Jl.nil (Ej.back (fun _ _ h => h) (by repeat (first | exact .refl | apply DropTo.tail)) ?_); repeat (first | exact trivial | refine ⟨rfl, ?_⟩)))
    | (apply gateC; first
      | refine Cj.block rfl ?_
      | refine Cj.regionD rfl (mkD [0, 1, 2, 3, 4, 5, 6, 7, 8, 9, 10, 12, 13, 14, 15] []) [] [0, 1, 2, 3, 4, 5, 6, 7, 8, 9, 10, 11, 12, 13, 14, 15] mixed (by decide +kernel) ?_
      | refine Cj.condF rfl rfl (Cj.skip rfl (Ej.go ?_ (fun _ _ h => h)))
      | (refine Cj.condF rfl rfl (Cj.skip rfl (Ej.back (fun _ _ h => h) (by repeat (first | exact .refl | apply DropTo.tail)) ?_)); repeat (first | exact trivial | refine ⟨rfl, ?_⟩))
      | refine Cj.condF rfl rfl ?_
      | refine Cj.condT rfl rfl ?_
      | refine Cj.exit rfl (Ej.go ?_ (fun _ _ h => h))
      | refine Cj.cond rfl rfl (fun h => ?_) (fun h => ?_)
      | refine Cj.skip rfl (Ej.go ?_ (fun _ _ h => h))
      | (refine Cj.skip rfl (Ej.back (fun _ _ h => h) (by repeat (first | exact .refl | apply DropTo.tail)) ?_); repeat (first | exact trivial | refine ⟨rfl, ?_⟩))
      | refine Cj.seq rfl ?_
      | refine Cj.region rfl ?_))
      refine Cj.ret rfl (Ej.out2 (P := Try.prog) (fn := Try.f116) (R := Rr) (fun _ _ h => h) rfl rfl rfl (fun w' hW => ⟨rfl, hW.below⟩))
end IH
end Go.Proofs.Ytkglpfdoefdhdaa.WK

