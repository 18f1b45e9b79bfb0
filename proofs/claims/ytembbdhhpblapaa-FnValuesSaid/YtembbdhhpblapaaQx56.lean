-- Written by a program of this session (wip/tools/pp.sh); Lean checks it.
import Derived.Test.YtembbdhhpblapaaQx0
import Derived.Test.YtembbdhhpblapaaQx8888801
namespace Go.Proofs.Ytembbdhhpblapaa.Q
open Go.RowKit Go.Proofs.YtembbdhhpblapaaW.PrintWords Go.Proofs.YtembbdhhpblapaaW.PrintLast Go.Proofs.YtembbdhhpblapaaW.PrintMore
attribute [local go_sem] max2_int min2_int max_two min_two max_three min_three max_four min_four   -- for this text's walks alone
set_option linter.unusedVariables false
set_option linter.unusedSimpArgs false

/-! ### spec_l24Value: function 56 -/
abbrev D0_56 : Array Bool := #[false, false, false, false, false, false, false, false, false, false, false, false, false]
abbrev D1_56 : Array Bool := #[false, false, true, false, false, false, false, false, false, false, false, false, false]
abbrev D2_56 : Array Bool := #[false, false, true, false, false, false, true, false, false, false, false, false, false]
def spec_l24Value.f (a0_0 : Int) (a0_1 : Int) (a0_2 : Int) (a0_3 : Int) (a0_4 : Bool) (a1 : Int) : Option (Int) := if a0_2 ≥ 100 then ((spec_l24Base.f a0_0 a0_1 a0_2 a0_3 a0_4).bind fun t138 => ((some (([100, 80, 55, 30] : List Int) : List Int)).bind fun y139 => (if 0 ≤ (wrap64 (a1 - 1)) then (if (wrap64 (a1 - 1)) < (y139.length : Int) then (some (wrap64 (Int.tdiv (wrap64 ((wrap64 (t138 * (100 + 60))) * (rd y139 (wrap64 (a1 - 1))))) 10000))) else (none)) else (none)))) else (if a0_2 ≥ 50 then ((spec_l24Base.f a0_0 a0_1 a0_2 a0_3 a0_4).bind fun t143 => ((some (([100, 80, 55, 30] : List Int) : List Int)).bind fun y144 => (if 0 ≤ (wrap64 (a1 - 1)) then (if (wrap64 (a1 - 1)) < (y144.length : Int) then (some (wrap64 (Int.tdiv (wrap64 ((wrap64 (t143 * (100 + 20))) * (rd y144 (wrap64 (a1 - 1))))) 10000))) else (none)) else (none)))) else ((spec_l24Base.f a0_0 a0_1 a0_2 a0_3 a0_4).bind fun t148 => ((some (([100, 80, 55, 30] : List Int) : List Int)).bind fun y149 => (if 0 ≤ (wrap64 (a1 - 1)) then (if (wrap64 (a1 - 1)) < (y149.length : Int) then (some (wrap64 (Int.tdiv (wrap64 ((wrap64 (t148 * 100)) * (rd y149 (wrap64 (a1 - 1))))) 10000))) else (none)) else (none)))))
def spec_l24Value.T6 : Bool × List (List Nat × List Nat) := (true, [([], []), ([0], [0]), ([], []), ([2], [2]), ([1, 3], [1, 3]), ([], []), ([], []), ([6], [6]), ([5, 7], [5, 7]), ([8], [8]), ([4, 9], [4, 9]), ([10], [10]), ([11, 1, 0, 1, 2, 3, 4, 5, 6, 7, 8, 9, 10, 11], [11])])
def spec_l24Value.B6 : List Nat := [0, 1, 0, 4, 15, 0, 0, 64, 224, 480, 1023, 2047, 4095]
theorem spec_l24Value.tab6 : rtab .any (opsOf Try.f56 6) = spec_l24Value.T6 := by kernel_rfl
theorem spec_l24Value.bits6 : waitsOk spec_l24Value.T6.2 spec_l24Value.B6 = true := by kernel_rfl
set_option maxHeartbeats 8000000 in
set_option maxRecDepth 100000 in
theorem spec_l24Value.calls (a0_0 : Int) (a0_1 : Int) (a0_2 : Int) (a0_3 : Int) (a0_4 : Bool) (a1 : Int) (r : Int) (w : World) (h : spec_l24Value.f a0_0 a0_1 a0_2 a0_3 a0_4 a1 = some r) :
  Calls Try.prog 56 #[.agg #[.int .i64 a0_0, .int .i64 a0_1, .int .i64 a0_2, .int .i64 a0_3, .bool a0_4], .int .i64 a1] w fun e w' => e = .returned (.int .i64 r) ∧ Below w.heap.size w w' := by
 have hu25 := Try.underlying25
 have HB := Aside0.mk (Below.refl w.heap.size w)
 have H : (if a0_2 ≥ 100 then ((spec_l24Base.f a0_0 a0_1 a0_2 a0_3 a0_4).bind fun t138 => ((some (([100, 80, 55, 30] : List Int) : List Int)).bind fun y139 => (if 0 ≤ (wrap64 (a1 - 1)) then (if (wrap64 (a1 - 1)) < (y139.length : Int) then (some (wrap64 (Int.tdiv (wrap64 ((wrap64 (t138 * (100 + 60))) * (rd y139 (wrap64 (a1 - 1))))) 10000))) else (none)) else (none)))) else (if a0_2 ≥ 50 then ((spec_l24Base.f a0_0 a0_1 a0_2 a0_3 a0_4).bind fun t143 => ((some (([100, 80, 55, 30] : List Int) : List Int)).bind fun y144 => (if 0 ≤ (wrap64 (a1 - 1)) then (if (wrap64 (a1 - 1)) < (y144.length : Int) then (some (wrap64 (Int.tdiv (wrap64 ((wrap64 (t143 * (100 + 20))) * (rd y144 (wrap64 (a1 - 1))))) 10000))) else (none)) else (none)))) else ((spec_l24Base.f a0_0 a0_1 a0_2 a0_3 a0_4).bind fun t148 => ((some (([100, 80, 55, 30] : List Int) : List Int)).bind fun y149 => (if 0 ≤ (wrap64 (a1 - 1)) then (if (wrap64 (a1 - 1)) < (y149.length : Int) then (some (wrap64 (Int.tdiv (wrap64 ((wrap64 (t148 * 100)) * (rd y149 (wrap64 (a1 - 1))))) 10000))) else (none)) else (none)))))) = some r := h
 clear h
 by_cases c3 : a0_2 ≥ 100
 ·rw [if_pos c3] at H
  have c3b0 : decide (100 ≤ a0_2) = true := decide_eq_true c3
  clear c3
  replace H := Option.bind_eq_some_iff.mp H
  obtain ⟨t138, A40, H⟩ := H
  have A4 := Aside0.mk A40
  clear A40
  obtain ⟨y139, hy139⟩ : ∃ y_ : List Int, y_ = (([100, 80, 55, 30] : List Int)) := ⟨_, rfl⟩
  replace H : (if 0 ≤ (wrap64 (a1 - 1)) then (if (wrap64 (a1 - 1)) < (y139.length : Int) then (some (wrap64 (Int.tdiv (wrap64 ((wrap64 (t138 * (100 + 60))) * (rd y139 (wrap64 (a1 - 1))))) 10000))) else (none)) else (none)) = some r := by first | (rw [hy139]; with_reducible exact H) | (have H2_ := (Option.bind_some _ _).symm.trans H; rw [hy139]; with_reducible exact H2_) | (have H2_ := (Option.bind_some _ _).symm.trans H; with_reducible exact H2_) | with_reducible exact H | (rw [hy139]; exact H) | exact H
  have Ny139 := Aside0.mk hy139
  clear hy139
  obtain ⟨ji5, hji5⟩ : ∃ j_ : Int, (wrap64 (a1 - 1)) = j_ := ⟨_, rfl⟩
  replace H : (if 0 ≤ (ji5) then (if (ji5) < (y139.length : Int) then (some (wrap64 (Int.tdiv (wrap64 ((wrap64 (t138 * (100 + 60))) * (rd y139 (ji5)))) 10000))) else (none)) else (none)) = some r := by first | (rw [hji5] at H; exact H) | (simp only [hji5] at H ⊢; exact H)
  (try rw [hji5] at A4)
  have hji5w : (IntKind.i64.wrap (a1 - 1)) = ji5 := (i64_w _).trans hji5
  by_cases c6 : 0 ≤ (ji5)
  ·rw [if_pos c6] at H
   have c6b0 : decide (0 ≤ (ji5)) = true := decide_eq_true c6
   clear c6
   by_cases c7 : (ji5) < (y139.length : Int)
   ·rw [if_pos c7] at H
    have c7b0 : decide ((ji5) < (y139.length : Int)) = true := decide_eq_true c7
    clear c7
    obtain rfl := Option.some.inj H
    go_enter Try.func56, Try.ntmps56
    try go_wp2_with (first | ((with_reducible refine gate_dst (N := 2) rfl ?_); refine box_event ?hg (N := 2) ?hd (cs := #[.int .i64 a0_0, .int .i64 a0_1, .int .i64 a0_2, .int .i64 a0_3, .bool a0_4]) (t := 25) ?hr ?_; (case hd => rfl); (case hg => rfl); (case hr => first | (go_simp; done) | (go_simp; rfl)); intro gb137 hg w8 hbox hb; have n0_ := Aside0.mk (below_step (by repeat (first | (with_reducible first | exact HB.out | apply below_alloc | apply pw_below_drewN | apply below_drew1) | exact HB.out)) hb); have n1_ := Aside0.mk (hbox); have n2_ := Aside0.mk ((by rw [hg]; exact (below_size (by repeat (first | (with_reducible first | exact HB.out | apply below_alloc | apply pw_below_drewN | apply below_drew1) | exact HB.out))) : w.heap.size ≤ gb137)); have n3_ := Aside0.mk ((by rw [hg]; exact (below_size (by repeat (first | (with_reducible first | exact HB.out | apply below_alloc | apply pw_below_drewN | apply below_drew1) | exact HB.out))) : w.heap.size ≤ gb137)); clear HB; have HB := n0_; have BK137 := n1_; have GW137 := n2_; have GE137 := n3_; clear n0_ n1_ n2_ n3_; clear hb hbox hg; have hcz9_0 : w8.cell? ⟨gb137, 0, none⟩ = some (.int .i64 a0_0) := (blk_cell BK137.out 0).trans rfl; have hcz9_1 : w8.cell? ⟨gb137, 1, none⟩ = some (.int .i64 a0_1) := (blk_cell BK137.out 1).trans rfl; have hcz9_2 : w8.cell? ⟨gb137, 2, none⟩ = some (.int .i64 a0_2) := (blk_cell BK137.out 2).trans rfl; have hcz9_3 : w8.cell? ⟨gb137, 3, none⟩ = some (.int .i64 a0_3) := (blk_cell BK137.out 3).trans rfl; have hcz9_4 : w8.cell? ⟨gb137, 4, none⟩ = some (.bool a0_4) := (blk_cell BK137.out 4).trans rfl; have hfz9_0 := blk_frozen BK137.out 0; have hfz9_1 := blk_frozen BK137.out 1; have hfz9_2 := blk_frozen BK137.out 2; have hfz9_3 := blk_frozen BK137.out 3; have hfz9_4 := blk_frozen BK137.out 4))
    have pi142 : (0 ≤ ((ji5) : Int)) = True := eq_true (of_decide_eq_true (by first | (with_reducible assumption) | assumption))
    have qi142 : ((ji5) < (y139.length : Int)) = True := eq_true (of_decide_eq_true (by first | (with_reducible assumption) | assumption))
    have n0_ := Aside0.mk (blk_drew BK137.out)
    have n1_ := Aside0.mk (below_drew1 HB.out)
    clear BK137
    clear HB
    have BK137 := n0_
    have HB := n1_
    clear n0_ n1_
    refine start_ (n := 13) (S := fun w' => True) (ds := []) D0_56 (by kernel_rfl) rfl rfl trivial (fun hHeld => ?_); refine with_tabW spec_l24Value.tab6 spec_l24Value.bits6 (fun HT_ HW_ => ?_)
    generalize w8.drew = w10 at BK137 HB hHeld ⊢
    refine pure_ (i := 2) (N := some 16) (v := ?_) (a' := ?_) D1_56 rfl rfl (any_of HT_.out (by kernel_rfl)) (fun _ _ _ h => h) (Or.inl ⟨by rfl, ?_⟩) ?_ ?_
    rotate_left
    ·intro w'
     go_simp
     with_reducible rfl
    rotate_left
    ·simp only [Act.put, sS_, sZ_, sC_, i64_w, i32_w]
     rfl
    refine pure_ (i := 6) (N := some 20) (v := ?_) (a' := ?_) D2_56 rfl rfl (any_of HT_.out (by kernel_rfl)) (fun _ _ _ h => h) (Or.inl ⟨by rfl, ?_⟩) ?_ ?_
    rotate_left
    ·intro w'
     go_simp
     with_reducible rfl
    rotate_left
    ·simp only [Act.put, sS_, sZ_, sC_, i64_w, i32_w]
     rfl
    refine inv_at [0, 1, 3, 4, 5, 7, 8, 9, 10, 11, 12] (fun a0_ b a w' => ∃ (v140 : Value) (adz_v140 : Addr) (m8_ : Value), a = putSel a0_ b [(0, 14, .agg #[.int .i64 a0_0, .int .i64 a0_1, .int .i64 a0_2, .int .i64 a0_3, .bool a0_4]), (1, 15, .int .i64 t138), (3, 17, .int .i64 (100 + 60)), (4, 18, .int .i64 (wrap64 (t138 * (100 + 60)))), (5, 19, v140), (7, 21, .int .i64 ji5), (8, 22, m8_), (9, 23, .int .i64 (rd y139 (ji5))), (10, 24, .int .i64 (wrap64 ((wrap64 (t138 * (100 + 60))) * (rd y139 (ji5))))), (11, 25, .int .i64 (wrap64 (Int.tdiv (wrap64 ((wrap64 (t138 * (100 + 60))) * (rd y139 (ji5)))) 10000))), (12, 4, .int .i64 (wrap64 (Int.tdiv (wrap64 ((wrap64 (t138 * (100 + 60))) * (rd y139 (ji5)))) 10000)))] ∧ (w'.heap[gb137]? = some (.cells #[.int .i64 a0_0, .int .i64 a0_1, .int .i64 a0_2, .int .i64 a0_3, .bool a0_4] 25 (0, 0))) ∧ (Below w.heap.size w w') ∧ (b 5 = true → Kd.R (Kd.int .i64) 3 w' w.heap.size (fun _ => True) v140 y139) ∧ (b 5 = true → ∃ c_, (v140 : Value) = .slice (some adz_v140) y139.length c_) ∧ (b 8 = true → (m8_ : Value) = .pointer (some (adz_v140.add ((ji5)).toNat)))) HT_.out HW_.out (by kernel_rfl) (by kernel_rfl) ?_ ?_ ?_
    ·exact ⟨.bool false, ⟨0, 0, none⟩, .bool false, by simp only [putSel, Bool.false_eq_true, if_false], BK137.out, HB.out, fun h_ => absurd h_ (by decide), fun h_ => absurd h_ (by decide), fun h_ => absurd h_ (by decide)⟩
    ·skip
     clear BK137 HB
     refine steps_cons ?_ ?_
     ·rintro b a w' ⟨v140, adz_v140, m8_, ha, Q_BK137, Q_HB, Q_HO141, Q_HA_HO141, Q_X8_⟩ hb_ hon hoff
      refine ⟨_, rfl, fun K hK => ?_⟩
      have e2 : a.tmps[2]? = some (.pointer (some ⟨gb137, 0, none⟩)) := by rw [ha]; exact (putSel_off rfl).trans rfl
      replace ha := Aside0.mk ha
      have BK137 := Aside0.mk Q_BK137
      have HB := Aside0.mk Q_HB
      have hc0_ : w'.cell? ⟨gb137, 0, none⟩ = some (.int .i64 a0_0) := (blk_cell BK137.out 0).trans rfl
      have hc1_ : w'.cell? ⟨gb137, 1, none⟩ = some (.int .i64 a0_1) := (blk_cell BK137.out 1).trans rfl
      have hc2_ : w'.cell? ⟨gb137, 2, none⟩ = some (.int .i64 a0_2) := (blk_cell BK137.out 2).trans rfl
      have hc3_ : w'.cell? ⟨gb137, 3, none⟩ = some (.int .i64 a0_3) := (blk_cell BK137.out 3).trans rfl
      have hc4_ : w'.cell? ⟨gb137, 4, none⟩ = some (.bool a0_4) := (blk_cell BK137.out 4).trans rfl
      refine value_ (w1 := w') (v := .agg #[.int .i64 a0_0, .int .i64 a0_1, .int .i64 a0_2, .int .i64 a0_3, .bool a0_4]) (by rfl) rfl ?_ ?_
      ·go_simp
       (try simp only [i64_w])
       (first | rfl | (simp [wrap64]; done) | skip)
      refine hK.out _ _ ⟨v140, adz_v140, m8_, (by rw [ha.out]; exact putSel_upk 0 hb_ rfl rfl rfl), Q_BK137, Q_HB, Q_HO141, Q_HA_HO141, Q_X8_⟩
     refine steps_cons ?_ ?_
     ·rintro b a w' ⟨v140, adz_v140, m8_, ha, Q_BK137, Q_HB, Q_HO141, Q_HA_HO141, Q_X8_⟩ hb_ hon hoff
      refine ⟨_, rfl, fun K hK => ?_⟩
      have e14 : a.tmps[14]? = some (.agg #[.int .i64 a0_0, .int .i64 a0_1, .int .i64 a0_2, .int .i64 a0_3, .bool a0_4]) := by rw [ha]; exact putSel_on (e := (0, 14, .agg #[.int .i64 a0_0, .int .i64 a0_1, .int .i64 a0_2, .int .i64 a0_3, .bool a0_4])) 0 rfl rfl (hon 0 (by kernel_rfl)) rfl
      replace ha := Aside0.mk ha
      have BK137 := Aside0.mk Q_BK137
      have HB := Aside0.mk Q_HB
      refine goes_ Try.func54 (by kernel_rfl) rfl #[.agg #[.int .i64 a0_0, .int .i64 a0_1, .int .i64 a0_2, .int .i64 a0_3, .bool a0_4]] (by rfl) rfl rfl (by first | (simp only [List.map_toArray, List.map_cons, List.map_nil, Act.eval, Array.getD_eq_getD_getElem?, Option.getD_some, e14]; done) | (simp only [List.map_toArray, List.map_cons, List.map_nil, Act.eval, Array.getD_eq_getD_getElem?, Option.getD_some, e14]; rfl)) ?_
      with_reducible refine (spec_l24Base.calls a0_0 a0_1 a0_2 a0_3 a0_4 t138 _ A4.out).mono ?_
      rintro e w11 ⟨rfl, hb⟩
      refine ⟨_, rfl, ?_⟩
      have n0_ := Aside0.mk (blk_below (g := gb137) (o := .cells #[.int .i64 a0_0, .int .i64 a0_1, .int .i64 a0_2, .int .i64 a0_3, .bool a0_4] 25 (0, 0)) (by (with_reducible repeat (first | refine blk_drewN ?_ _ | refine blk_drew ?_ | refine blk_alloc ?_ _)); exact BK137.out) hb)
      have n1_ := Aside0.mk (below_step (by repeat (first | (with_reducible first | exact HB.out | apply below_alloc | apply pw_below_drewN | apply below_drew1 | refine below_set ?_ GE137.out) | exact HB.out)) hb)
      have z_HO141 := fun (h0_ : b 5 = true) => (show Kd.R (Kd.int .i64) 3 w11 w.heap.size (fun _ => True) v140 y139 from by first | exact (Kd.R_below (by (with_reducible repeat (first | apply Kd.R_alloc | apply Kd.R_drewN | apply Kd.R_drew)); exact (Q_HO141 h0_)) hb) | exact Kd.R_mono (Kd.R_below (by (with_reducible repeat (first | apply Kd.R_alloc | apply Kd.R_drewN | apply Kd.R_drew)); exact (Q_HO141 h0_)) hb) (fun _ h_ => by first | trivial | exact h_ | exact h_.1))
      clear BK137
      clear HB
      have BK137 := n0_
      have HB := n1_
      clear n0_ n1_
      (try clear hb)
      (try clear hb2)
      (try clear hk)
      (try clear hi)
      refine hK.out _ _ ⟨v140, adz_v140, m8_, (by rw [ha.out]; exact putSel_upk 1 hb_ rfl rfl rfl), (by (with_reducible repeat (first | refine blk_drewN ?_ _ | refine blk_drew ?_ | refine blk_alloc ?_ _)); exact BK137.out), (by repeat (first | (with_reducible first | exact HB.out | apply below_alloc | apply pw_below_drewN | apply below_drew1 | refine below_set ?_ GE137.out) | exact HB.out)), z_HO141, Q_HA_HO141, Q_X8_⟩
     refine steps_cons ?_ ?_
     ·rintro b a w' ⟨v140, adz_v140, m8_, ha, Q_BK137, Q_HB, Q_HO141, Q_HA_HO141, Q_X8_⟩ hb_ hon hoff
      refine ⟨_, rfl, fun K hK => ?_⟩
      have e16 : a.tmps[16]? = some (.int .i64 60) := by rw [ha]; exact (putSel_off rfl).trans rfl
      replace ha := Aside0.mk ha
      have BK137 := Aside0.mk Q_BK137
      have HB := Aside0.mk Q_HB
      refine value_ (w1 := w') (v := .int .i64 (100 + 60)) (by rfl) rfl ?_ ?_
      ·go_simp
       (try simp only [i64_w])
       (first | rfl | (simp [wrap64]; done) | skip)
      refine hK.out _ _ ⟨v140, adz_v140, m8_, (by rw [ha.out]; exact putSel_upk 2 hb_ rfl rfl rfl), Q_BK137, Q_HB, Q_HO141, Q_HA_HO141, Q_X8_⟩
     refine steps_cons ?_ ?_
     ·rintro b a w' ⟨v140, adz_v140, m8_, ha, Q_BK137, Q_HB, Q_HO141, Q_HA_HO141, Q_X8_⟩ hb_ hon hoff
      refine ⟨_, rfl, fun K hK => ?_⟩
      have e15 : a.tmps[15]? = some (.int .i64 t138) := by rw [ha]; exact putSel_on (e := (1, 15, .int .i64 t138)) 1 rfl rfl (hon 1 (by kernel_rfl)) rfl
      have e17 : a.tmps[17]? = some (.int .i64 (100 + 60)) := by rw [ha]; exact putSel_on (e := (3, 17, .int .i64 (100 + 60))) 2 rfl rfl (hon 3 (by kernel_rfl)) rfl
      replace ha := Aside0.mk ha
      have BK137 := Aside0.mk Q_BK137
      have HB := Aside0.mk Q_HB
      refine value_ (w1 := w') (v := .int .i64 (wrap64 (t138 * (100 + 60)))) (by rfl) rfl ?_ ?_
      ·go_simp
       (try simp only [i64_w])
       (first | rfl | (simp [wrap64]; done) | skip)
      refine hK.out _ _ ⟨v140, adz_v140, m8_, (by rw [ha.out]; exact putSel_upk 3 hb_ rfl rfl rfl), Q_BK137, Q_HB, Q_HO141, Q_HA_HO141, Q_X8_⟩
     refine steps_cons ?_ ?_
     ·rintro b a w' ⟨v140, adz_v140, m8_, ha, Q_BK137, Q_HB, Q_HO141, Q_HA_HO141, Q_X8_⟩ hb_ hon hoff
      refine ⟨_, rfl, fun K hK => ?_⟩
      replace ha := Aside0.mk ha
      have BK137 := Aside0.mk Q_BK137
      have HB := Aside0.mk Q_HB
      refine Kd.R_lit_step (Kd.int .i64) _ 3 ?hg (N := 19) ?hd (xs := ([100, 80, 55, 30] : List Int)) (inner := [.int .i64 100, .int .i64 80, .int .i64 55, .int .i64 30]) (ok := fun _ => True) (okp := fun _ => True) ?hr ?hp (fun _ hk => hk) trivial (Below.refl _ _) (Nat.le_refl _) (by simp) ?_; (case hd => rfl); (case hg => rfl); (case hr => first | (go_simp; done) | (go_simp; rfl)); (case hp => exact (Reps.one (show Kd.M (Kd.int .i64) _ _ _ 100 [.int .i64 100] from rfl) (Reps.one (show Kd.M (Kd.int .i64) _ _ _ 80 [.int .i64 80] from rfl) (Reps.one (show Kd.M (Kd.int .i64) _ _ _ 55 [.int .i64 55] from rfl) (Reps.one (show Kd.M (Kd.int .i64) _ _ _ 30 [.int .i64 30] from rfl) (Reps.none _ _))))))
      intro v140 w11 ho12 hb hg_ hnew_
      clear hg_ hnew_
      (first | rw [← Ny139.out] at ho12 | (simp only [Int.reduceToNat] at ho12; rw [← Ny139.out] at ho12))
      have n0_ := Aside0.mk (Kd.R_lower ho12 (below_size (by repeat (first | (with_reducible first | exact HB.out | apply below_alloc | apply pw_below_drewN | apply below_drew1 | refine below_set ?_ GE137.out) | exact HB.out))))
      have n1_ := Aside0.mk (blk_below (g := gb137) (o := .cells #[.int .i64 a0_0, .int .i64 a0_1, .int .i64 a0_2, .int .i64 a0_3, .bool a0_4] 25 (0, 0)) (by (with_reducible repeat (first | refine blk_drewN ?_ _ | refine blk_drew ?_ | refine blk_alloc ?_ _)); exact BK137.out) hb)
      have n2_ := Aside0.mk (below_step (by repeat (first | (with_reducible first | exact HB.out | apply below_alloc | apply pw_below_drewN | apply below_drew1 | refine below_set ?_ GE137.out) | exact HB.out)) hb)
      clear BK137
      clear HB
      have HO141 := n0_
      have BK137 := n1_
      have HB := n2_
      clear n0_ n1_ n2_
      clear hb ho12
      obtain ⟨Ao13, co13, eo13⟩ := Kd.R_slice HO141.out
      subst eo13
      obtain ⟨ado13, fo13, _⟩ := Kd.at_int (Kd.R_reads' HO141.out).2.2 0 (by decide) (by rw [Ny139.out]; simp)
      cases fo13
      refine hK.out _ _ ⟨.slice (some ado13) y139.length co13, ado13, m8_, (by rw [ha.out]; exact putSel_upk 4 hb_ rfl rfl rfl), (by (with_reducible repeat (first | refine blk_drewN ?_ _ | refine blk_drew ?_ | refine blk_alloc ?_ _)); exact BK137.out), (by repeat (first | (with_reducible first | exact HB.out | apply below_alloc | apply pw_below_drewN | apply below_drew1 | refine below_set ?_ GE137.out) | exact HB.out)), fun _ => (by (with_reducible repeat (first | apply Kd.R_alloc | apply Kd.R_drewN | apply Kd.R_drew)); exact HO141.out), fun _ => ⟨_, rfl⟩, fun h0_ => absurd ((hoff 8 (by kernel_rfl)).symm.trans h0_) (by decide)⟩
     refine steps_cons ?_ ?_
     ·rintro b a w' ⟨v140, adz_v140, m8_, ha, Q_BK137, Q_HB, Q_HO141, Q_HA_HO141, Q_X8_⟩ hb_ hon hoff
      refine ⟨_, rfl, fun K hK => ?_⟩
      have e20 : a.tmps[20]? = some (.int .i64 a1) := by rw [ha]; exact (putSel_off rfl).trans rfl
      replace ha := Aside0.mk ha
      have BK137 := Aside0.mk Q_BK137
      have HB := Aside0.mk Q_HB
      refine value_ (w1 := w') (v := .int .i64 ji5) (by rfl) rfl ?_ ?_
      ·go_simp
       (try simp only [i64_w])
       (first | rfl | (simp [wrap64]; done) | skip)
      refine hK.out _ _ ⟨v140, adz_v140, m8_, (by rw [ha.out]; exact putSel_upk 5 hb_ rfl rfl rfl), Q_BK137, Q_HB, Q_HO141, Q_HA_HO141, fun h0_ => absurd ((hoff 8 (by kernel_rfl)).symm.trans h0_) (by decide)⟩
     refine steps_cons ?_ ?_
     ·rintro b a w' ⟨v140, adz_v140, m8_, ha, Q_BK137, Q_HB, Q_HO141, Q_HA_HO141, Q_X8_⟩ hb_ hon hoff
      refine ⟨_, rfl, fun K hK => ?_⟩
      have e19 : a.tmps[19]? = some (v140) := by rw [ha]; exact putSel_on (e := (5, 19, v140)) 4 rfl rfl (hon 5 (by kernel_rfl)) rfl
      have e21 : a.tmps[21]? = some (.int .i64 ji5) := by rw [ha]; exact putSel_on (e := (7, 21, .int .i64 ji5)) 5 rfl rfl (hon 7 (by kernel_rfl)) rfl
      replace ha := Aside0.mk ha
      have BK137 := Aside0.mk Q_BK137
      have HB := Aside0.mk Q_HB
      have HO141 := Aside0.mk (Q_HO141 (hon 5 (by kernel_rfl)))
      have HA_HO141 := Aside0.mk (Q_HA_HO141 (hon 5 (by kernel_rfl)))
      obtain ⟨c_, hv_⟩ := HA_HO141.out
      rw [hv_] at e19
      refine value_ (w1 := w') (v := .pointer (some (adz_v140.add ((ji5)).toNat))) (by rfl) rfl ?_ ?_
      ·go_simp
       (try simp only [i64_w])
       (first | rfl | (simp [wrap64]; done) | skip)
      refine hK.out _ _ ⟨v140, adz_v140, (.pointer (some (adz_v140.add ((ji5)).toNat))), (by rw [ha.out]; exact putSel_upk 6 hb_ rfl rfl rfl), Q_BK137, Q_HB, Q_HO141, Q_HA_HO141, fun _ => rfl⟩
     refine steps_cons ?_ ?_
     ·rintro b a w' ⟨v140, adz_v140, m8_, ha, Q_BK137, Q_HB, Q_HO141, Q_HA_HO141, Q_X8_⟩ hb_ hon hoff
      refine ⟨_, rfl, fun K hK => ?_⟩
      have e22 : a.tmps[22]? = some (m8_) := by rw [ha]; exact putSel_on (e := (8, 22, m8_)) 6 rfl rfl (hon 8 (by kernel_rfl)) rfl
      rw [Q_X8_ (hon 8 (by kernel_rfl))] at e22
      replace ha := Aside0.mk ha
      have BK137 := Aside0.mk Q_BK137
      have HB := Aside0.mk Q_HB
      have HO141 := Aside0.mk (Q_HO141 (hon 5 (by kernel_rfl)))
      have HA_HO141 := Aside0.mk (Q_HA_HO141 (hon 5 (by kernel_rfl)))
      obtain ⟨c_, hv_⟩ := HA_HO141.out
      have hF_ := HO141.out
      rw [hv_] at hF_
      obtain ⟨ad_, ea_, hx_⟩ := Kd.at_int (Kd.R_reads' hF_).2.2 (ji5) (of_eq_true pi142) (of_eq_true qi142)
      cases ea_
      refine value_ (w1 := w') (v := .int .i64 (rd y139 (ji5))) (by rfl) rfl ?_ ?_
      ·go_simp
       (try simp only [i64_w])
       (first | rfl | (simp [wrap64]; done) | skip)
      refine hK.out _ _ ⟨v140, adz_v140, m8_, (by rw [ha.out]; exact putSel_upk 7 hb_ rfl rfl rfl), Q_BK137, Q_HB, Q_HO141, Q_HA_HO141, Q_X8_⟩
     refine steps_cons ?_ ?_
     ·rintro b a w' ⟨v140, adz_v140, m8_, ha, Q_BK137, Q_HB, Q_HO141, Q_HA_HO141, Q_X8_⟩ hb_ hon hoff
      refine ⟨_, rfl, fun K hK => ?_⟩
      have e18 : a.tmps[18]? = some (.int .i64 (wrap64 (t138 * (100 + 60)))) := by rw [ha]; exact putSel_on (e := (4, 18, .int .i64 (wrap64 (t138 * (100 + 60))))) 3 rfl rfl (hon 4 (by kernel_rfl)) rfl
      have e23 : a.tmps[23]? = some (.int .i64 (rd y139 (ji5))) := by rw [ha]; exact putSel_on (e := (9, 23, .int .i64 (rd y139 (ji5)))) 7 rfl rfl (hon 9 (by kernel_rfl)) rfl
      replace ha := Aside0.mk ha
      have BK137 := Aside0.mk Q_BK137
      have HB := Aside0.mk Q_HB
      have HO141 := Aside0.mk (Q_HO141 (hon 5 (by kernel_rfl)))
      have HA_HO141 := Aside0.mk (Q_HA_HO141 (hon 5 (by kernel_rfl)))
      refine value_ (w1 := w') (v := .int .i64 (wrap64 ((wrap64 (t138 * (100 + 60))) * (rd y139 (ji5))))) (by rfl) rfl ?_ ?_
      ·go_simp
       (try simp only [i64_w])
       (first | rfl | (simp [wrap64]; done) | skip)
      refine hK.out _ _ ⟨v140, adz_v140, m8_, (by rw [ha.out]; exact putSel_upk 8 hb_ rfl rfl rfl), Q_BK137, Q_HB, Q_HO141, Q_HA_HO141, Q_X8_⟩
     refine steps_cons ?_ ?_
     ·rintro b a w' ⟨v140, adz_v140, m8_, ha, Q_BK137, Q_HB, Q_HO141, Q_HA_HO141, Q_X8_⟩ hb_ hon hoff
      refine ⟨_, rfl, fun K hK => ?_⟩
      have e24 : a.tmps[24]? = some (.int .i64 (wrap64 ((wrap64 (t138 * (100 + 60))) * (rd y139 (ji5))))) := by rw [ha]; exact putSel_on (e := (10, 24, .int .i64 (wrap64 ((wrap64 (t138 * (100 + 60))) * (rd y139 (ji5)))))) 8 rfl rfl (hon 10 (by kernel_rfl)) rfl
      replace ha := Aside0.mk ha
      have BK137 := Aside0.mk Q_BK137
      have HB := Aside0.mk Q_HB
      have HO141 := Aside0.mk (Q_HO141 (hon 5 (by kernel_rfl)))
      have HA_HO141 := Aside0.mk (Q_HA_HO141 (hon 5 (by kernel_rfl)))
      refine value_ (w1 := w') (v := .int .i64 (wrap64 (Int.tdiv (wrap64 ((wrap64 (t138 * (100 + 60))) * (rd y139 (ji5)))) 10000))) (by rfl) rfl ?_ ?_
      ·go_simp
       (try simp only [i64_w])
       (first | rfl | (simp [wrap64]; done) | skip)
      refine hK.out _ _ ⟨v140, adz_v140, m8_, (by rw [ha.out]; exact putSel_upk 9 hb_ rfl rfl rfl), Q_BK137, Q_HB, Q_HO141, Q_HA_HO141, Q_X8_⟩
     refine steps_cons ?_ ?_
     ·rintro b a w' ⟨v140, adz_v140, m8_, ha, Q_BK137, Q_HB, Q_HO141, Q_HA_HO141, Q_X8_⟩ hb_ hon hoff
      refine ⟨_, rfl, fun K hK => ?_⟩
      have e25 : a.tmps[25]? = some (.int .i64 (wrap64 (Int.tdiv (wrap64 ((wrap64 (t138 * (100 + 60))) * (rd y139 (ji5)))) 10000))) := by rw [ha]; exact putSel_on (e := (11, 25, .int .i64 (wrap64 (Int.tdiv (wrap64 ((wrap64 (t138 * (100 + 60))) * (rd y139 (ji5)))) 10000)))) 9 rfl rfl (hon 11 (by kernel_rfl)) rfl
      replace ha := Aside0.mk ha
      have BK137 := Aside0.mk Q_BK137
      have HB := Aside0.mk Q_HB
      have HO141 := Aside0.mk (Q_HO141 (hon 5 (by kernel_rfl)))
      have HA_HO141 := Aside0.mk (Q_HA_HO141 (hon 5 (by kernel_rfl)))
      refine value_ (w1 := w') (v := .int .i64 (wrap64 (Int.tdiv (wrap64 ((wrap64 (t138 * (100 + 60))) * (rd y139 (ji5)))) 10000))) (by rfl) rfl ?_ ?_
      ·go_simp
       (try simp only [i64_w])
       (first | rfl | (simp [wrap64]; done) | skip)
      refine hK.out _ _ ⟨v140, adz_v140, m8_, (by rw [ha.out]; exact putSel_upk 10 hb_ rfl rfl rfl), Q_BK137, Q_HB, Q_HO141, Q_HA_HO141, Q_X8_⟩
     exact steps_nil
    rintro b a w15 hall ⟨v140, adz_v140, m8_, ha, Q_BK137, Q_HB, Q_HO141, Q_HA_HO141, Q_X8_⟩
    clear BK137 HB
    have hb0_ := hall 0 (by kernel_rfl)
    have hb1_ := hall 1 (by kernel_rfl)
    have hb3_ := hall 3 (by kernel_rfl)
    have hb4_ := hall 4 (by kernel_rfl)
    have hb5_ := hall 5 (by kernel_rfl)
    have hb7_ := hall 7 (by kernel_rfl)
    have hb8_ := hall 8 (by kernel_rfl)
    have hb9_ := hall 9 (by kernel_rfl)
    have hb10_ := hall 10 (by kernel_rfl)
    have hb11_ := hall 11 (by kernel_rfl)
    have hb12_ := hall 12 (by kernel_rfl)
    subst ha
    obtain rfl := Q_X8_ hb8_
    simp only [putSel, hb0_, hb1_, hb3_, hb4_, hb5_, hb7_, hb8_, hb9_, hb10_, hb11_, hb12_, if_true, Act.put, List.setIfInBounds_toArray, List.set_cons_zero, List.set_cons_succ]
    have BK137 := Aside0.mk Q_BK137
    clear Q_BK137
    have HB := Aside0.mk Q_HB
    clear Q_HB
    have HO141 := Aside0.mk (Q_HO141 hb5_)
    clear Q_HO141
    have HA_HO141 := Aside0.mk (Q_HA_HO141 hb5_)
    clear Q_HA_HO141
    clear hall hb0_ hb1_ hb3_ hb4_ hb5_ hb7_ hb8_ hb9_ hb10_ hb11_ hb12_
    obtain ⟨co16, eo16⟩ := HA_HO141.out
    clear HA_HO141
    subst eo16
    try go_wp2
    go_ret
    exact ⟨by first | rfl | (simp [errW_none, errW_some] <;> rfl) | (simp only [← hji5]; first | rfl | (simp [errW_none, errW_some] <;> rfl)) | (simp [*, errW_none, errW_some] <;> rfl) | (simp [wrap64]; done), by repeat (first | (with_reducible first | exact HB.out | apply below_alloc | apply pw_below_drewN | apply below_drew1 | refine below_set ?_ GE137.out) | exact HB.out)⟩
   ·rw [if_neg c7] at H
    exact absurd H (by simp)
  ·rw [if_neg c6] at H
   exact absurd H (by simp)
 ·rw [if_neg c3] at H
  have c3b0 : decide (100 ≤ a0_2) = false := decide_eq_false c3
  clear c3
  by_cases c17 : a0_2 ≥ 50
  ·rw [if_pos c17] at H
   have c17b0 : decide (50 ≤ a0_2) = true := decide_eq_true c17
   clear c17
   replace H := Option.bind_eq_some_iff.mp H
   obtain ⟨t143, A180, H⟩ := H
   have A18 := Aside0.mk A180
   clear A180
   obtain ⟨y144, hy144⟩ : ∃ y_ : List Int, y_ = (([100, 80, 55, 30] : List Int)) := ⟨_, rfl⟩
   replace H : (if 0 ≤ (wrap64 (a1 - 1)) then (if (wrap64 (a1 - 1)) < (y144.length : Int) then (some (wrap64 (Int.tdiv (wrap64 ((wrap64 (t143 * (100 + 20))) * (rd y144 (wrap64 (a1 - 1))))) 10000))) else (none)) else (none)) = some r := by first | (rw [hy144]; with_reducible exact H) | (have H2_ := (Option.bind_some _ _).symm.trans H; rw [hy144]; with_reducible exact H2_) | (have H2_ := (Option.bind_some _ _).symm.trans H; with_reducible exact H2_) | with_reducible exact H | (rw [hy144]; exact H) | exact H
   have Ny144 := Aside0.mk hy144
   clear hy144
   obtain ⟨ji19, hji19⟩ : ∃ j_ : Int, (wrap64 (a1 - 1)) = j_ := ⟨_, rfl⟩
   replace H : (if 0 ≤ (ji19) then (if (ji19) < (y144.length : Int) then (some (wrap64 (Int.tdiv (wrap64 ((wrap64 (t143 * (100 + 20))) * (rd y144 (ji19)))) 10000))) else (none)) else (none)) = some r := by first | (rw [hji19] at H; exact H) | (simp only [hji19] at H ⊢; exact H)
   (try rw [hji19] at A18)
   have hji19w : (IntKind.i64.wrap (a1 - 1)) = ji19 := (i64_w _).trans hji19
   by_cases c20 : 0 ≤ (ji19)
   ·rw [if_pos c20] at H
    have c20b0 : decide (0 ≤ (ji19)) = true := decide_eq_true c20
    clear c20
    by_cases c21 : (ji19) < (y144.length : Int)
    ·rw [if_pos c21] at H
     have c21b0 : decide ((ji19) < (y144.length : Int)) = true := decide_eq_true c21
     clear c21
     obtain rfl := Option.some.inj H
     go_enter Try.func56, Try.ntmps56
     try go_wp2_with (first | ((with_reducible refine gate_dst (N := 2) rfl ?_); refine box_event ?hg (N := 2) ?hd (cs := #[.int .i64 a0_0, .int .i64 a0_1, .int .i64 a0_2, .int .i64 a0_3, .bool a0_4]) (t := 25) ?hr ?_; (case hd => rfl); (case hg => rfl); (case hr => first | (go_simp; done) | (go_simp; rfl)); intro gb137 hg w22 hbox hb; have n0_ := Aside0.mk (below_step (by repeat (first | (with_reducible first | exact HB.out | apply below_alloc | apply pw_below_drewN | apply below_drew1) | exact HB.out)) hb); have n1_ := Aside0.mk (hbox); have n2_ := Aside0.mk ((by rw [hg]; exact (below_size (by repeat (first | (with_reducible first | exact HB.out | apply below_alloc | apply pw_below_drewN | apply below_drew1) | exact HB.out))) : w.heap.size ≤ gb137)); have n3_ := Aside0.mk ((by rw [hg]; exact (below_size (by repeat (first | (with_reducible first | exact HB.out | apply below_alloc | apply pw_below_drewN | apply below_drew1) | exact HB.out))) : w.heap.size ≤ gb137)); clear HB; have HB := n0_; have BK137 := n1_; have GW137 := n2_; have GE137 := n3_; clear n0_ n1_ n2_ n3_; clear hb hbox hg; have hcz23_0 : w22.cell? ⟨gb137, 0, none⟩ = some (.int .i64 a0_0) := (blk_cell BK137.out 0).trans rfl; have hcz23_1 : w22.cell? ⟨gb137, 1, none⟩ = some (.int .i64 a0_1) := (blk_cell BK137.out 1).trans rfl; have hcz23_2 : w22.cell? ⟨gb137, 2, none⟩ = some (.int .i64 a0_2) := (blk_cell BK137.out 2).trans rfl; have hcz23_3 : w22.cell? ⟨gb137, 3, none⟩ = some (.int .i64 a0_3) := (blk_cell BK137.out 3).trans rfl; have hcz23_4 : w22.cell? ⟨gb137, 4, none⟩ = some (.bool a0_4) := (blk_cell BK137.out 4).trans rfl; have hfz23_0 := blk_frozen BK137.out 0; have hfz23_1 := blk_frozen BK137.out 1; have hfz23_2 := blk_frozen BK137.out 2; have hfz23_3 := blk_frozen BK137.out 3; have hfz23_4 := blk_frozen BK137.out 4))
     have pi147 : (0 ≤ ((ji19) : Int)) = True := eq_true (of_decide_eq_true (by first | (with_reducible assumption) | assumption))
     have qi147 : ((ji19) < (y144.length : Int)) = True := eq_true (of_decide_eq_true (by first | (with_reducible assumption) | assumption))
     have n0_ := Aside0.mk (blk_drew BK137.out)
     have n1_ := Aside0.mk (below_drew1 HB.out)
     clear BK137
     clear HB
     have BK137 := n0_
     have HB := n1_
     clear n0_ n1_
     refine start_ (n := 13) (S := fun w' => True) (ds := []) D0_56 (by kernel_rfl) rfl rfl trivial (fun hHeld => ?_); refine with_tabW spec_l24Value.tab6 spec_l24Value.bits6 (fun HT_ HW_ => ?_)
     generalize w22.drew = w24 at BK137 HB hHeld ⊢
     refine pure_ (i := 2) (N := some 16) (v := ?_) (a' := ?_) D1_56 rfl rfl (any_of HT_.out (by kernel_rfl)) (fun _ _ _ h => h) (Or.inl ⟨by rfl, ?_⟩) ?_ ?_
     rotate_left
     ·intro w'
      go_simp
      with_reducible rfl
     rotate_left
     ·simp only [Act.put, sS_, sZ_, sC_, i64_w, i32_w]
      rfl
     refine pure_ (i := 6) (N := some 20) (v := ?_) (a' := ?_) D2_56 rfl rfl (any_of HT_.out (by kernel_rfl)) (fun _ _ _ h => h) (Or.inl ⟨by rfl, ?_⟩) ?_ ?_
     rotate_left
     ·intro w'
      go_simp
      with_reducible rfl
     rotate_left
     ·simp only [Act.put, sS_, sZ_, sC_, i64_w, i32_w]
      rfl
     refine inv_at [0, 1, 3, 4, 5, 7, 8, 9, 10, 11, 12] (fun a0_ b a w' => ∃ (v145 : Value) (adz_v145 : Addr) (m8_ : Value), a = putSel a0_ b [(0, 14, .agg #[.int .i64 a0_0, .int .i64 a0_1, .int .i64 a0_2, .int .i64 a0_3, .bool a0_4]), (1, 15, .int .i64 t143), (3, 17, .int .i64 (100 + 20)), (4, 18, .int .i64 (wrap64 (t143 * (100 + 20)))), (5, 19, v145), (7, 21, .int .i64 ji19), (8, 22, m8_), (9, 23, .int .i64 (rd y144 (ji19))), (10, 24, .int .i64 (wrap64 ((wrap64 (t143 * (100 + 20))) * (rd y144 (ji19))))), (11, 25, .int .i64 (wrap64 (Int.tdiv (wrap64 ((wrap64 (t143 * (100 + 20))) * (rd y144 (ji19)))) 10000))), (12, 4, .int .i64 (wrap64 (Int.tdiv (wrap64 ((wrap64 (t143 * (100 + 20))) * (rd y144 (ji19)))) 10000)))] ∧ (w'.heap[gb137]? = some (.cells #[.int .i64 a0_0, .int .i64 a0_1, .int .i64 a0_2, .int .i64 a0_3, .bool a0_4] 25 (0, 0))) ∧ (Below w.heap.size w w') ∧ (b 5 = true → Kd.R (Kd.int .i64) 3 w' w.heap.size (fun _ => True) v145 y144) ∧ (b 5 = true → ∃ c_, (v145 : Value) = .slice (some adz_v145) y144.length c_) ∧ (b 8 = true → (m8_ : Value) = .pointer (some (adz_v145.add ((ji19)).toNat)))) HT_.out HW_.out (by kernel_rfl) (by kernel_rfl) ?_ ?_ ?_
     ·exact ⟨.bool false, ⟨0, 0, none⟩, .bool false, by simp only [putSel, Bool.false_eq_true, if_false], BK137.out, HB.out, fun h_ => absurd h_ (by decide), fun h_ => absurd h_ (by decide), fun h_ => absurd h_ (by decide)⟩
     ·skip
      clear BK137 HB
      refine steps_cons ?_ ?_
      ·rintro b a w' ⟨v145, adz_v145, m8_, ha, Q_BK137, Q_HB, Q_HO146, Q_HA_HO146, Q_X8_⟩ hb_ hon hoff
       refine ⟨_, rfl, fun K hK => ?_⟩
       have e2 : a.tmps[2]? = some (.pointer (some ⟨gb137, 0, none⟩)) := by rw [ha]; exact (putSel_off rfl).trans rfl
       replace ha := Aside0.mk ha
       have BK137 := Aside0.mk Q_BK137
       have HB := Aside0.mk Q_HB
       have hc0_ : w'.cell? ⟨gb137, 0, none⟩ = some (.int .i64 a0_0) := (blk_cell BK137.out 0).trans rfl
       have hc1_ : w'.cell? ⟨gb137, 1, none⟩ = some (.int .i64 a0_1) := (blk_cell BK137.out 1).trans rfl
       have hc2_ : w'.cell? ⟨gb137, 2, none⟩ = some (.int .i64 a0_2) := (blk_cell BK137.out 2).trans rfl
       have hc3_ : w'.cell? ⟨gb137, 3, none⟩ = some (.int .i64 a0_3) := (blk_cell BK137.out 3).trans rfl
       have hc4_ : w'.cell? ⟨gb137, 4, none⟩ = some (.bool a0_4) := (blk_cell BK137.out 4).trans rfl
       refine value_ (w1 := w') (v := .agg #[.int .i64 a0_0, .int .i64 a0_1, .int .i64 a0_2, .int .i64 a0_3, .bool a0_4]) (by rfl) rfl ?_ ?_
       ·go_simp
        (try simp only [i64_w])
        (first | rfl | (simp [wrap64]; done) | skip)
       refine hK.out _ _ ⟨v145, adz_v145, m8_, (by rw [ha.out]; exact putSel_upk 0 hb_ rfl rfl rfl), Q_BK137, Q_HB, Q_HO146, Q_HA_HO146, Q_X8_⟩
      refine steps_cons ?_ ?_
      ·rintro b a w' ⟨v145, adz_v145, m8_, ha, Q_BK137, Q_HB, Q_HO146, Q_HA_HO146, Q_X8_⟩ hb_ hon hoff
       refine ⟨_, rfl, fun K hK => ?_⟩
       have e14 : a.tmps[14]? = some (.agg #[.int .i64 a0_0, .int .i64 a0_1, .int .i64 a0_2, .int .i64 a0_3, .bool a0_4]) := by rw [ha]; exact putSel_on (e := (0, 14, .agg #[.int .i64 a0_0, .int .i64 a0_1, .int .i64 a0_2, .int .i64 a0_3, .bool a0_4])) 0 rfl rfl (hon 0 (by kernel_rfl)) rfl
       replace ha := Aside0.mk ha
       have BK137 := Aside0.mk Q_BK137
       have HB := Aside0.mk Q_HB
       refine goes_ Try.func54 (by kernel_rfl) rfl #[.agg #[.int .i64 a0_0, .int .i64 a0_1, .int .i64 a0_2, .int .i64 a0_3, .bool a0_4]] (by rfl) rfl rfl (by first | (simp only [List.map_toArray, List.map_cons, List.map_nil, Act.eval, Array.getD_eq_getD_getElem?, Option.getD_some, e14]; done) | (simp only [List.map_toArray, List.map_cons, List.map_nil, Act.eval, Array.getD_eq_getD_getElem?, Option.getD_some, e14]; rfl)) ?_
       with_reducible refine (spec_l24Base.calls a0_0 a0_1 a0_2 a0_3 a0_4 t143 _ A18.out).mono ?_
       rintro e w25 ⟨rfl, hb⟩
       refine ⟨_, rfl, ?_⟩
       have n0_ := Aside0.mk (blk_below (g := gb137) (o := .cells #[.int .i64 a0_0, .int .i64 a0_1, .int .i64 a0_2, .int .i64 a0_3, .bool a0_4] 25 (0, 0)) (by (with_reducible repeat (first | refine blk_drewN ?_ _ | refine blk_drew ?_ | refine blk_alloc ?_ _)); exact BK137.out) hb)
       have n1_ := Aside0.mk (below_step (by repeat (first | (with_reducible first | exact HB.out | apply below_alloc | apply pw_below_drewN | apply below_drew1 | refine below_set ?_ GE137.out) | exact HB.out)) hb)
       have z_HO146 := fun (h0_ : b 5 = true) => (show Kd.R (Kd.int .i64) 3 w25 w.heap.size (fun _ => True) v145 y144 from by first | exact (Kd.R_below (by (with_reducible repeat (first | apply Kd.R_alloc | apply Kd.R_drewN | apply Kd.R_drew)); exact (Q_HO146 h0_)) hb) | exact Kd.R_mono (Kd.R_below (by (with_reducible repeat (first | apply Kd.R_alloc | apply Kd.R_drewN | apply Kd.R_drew)); exact (Q_HO146 h0_)) hb) (fun _ h_ => by first | trivial | exact h_ | exact h_.1))
       clear BK137
       clear HB
       have BK137 := n0_
       have HB := n1_
       clear n0_ n1_
       (try clear hb)
       (try clear hb2)
       (try clear hk)
       (try clear hi)
       refine hK.out _ _ ⟨v145, adz_v145, m8_, (by rw [ha.out]; exact putSel_upk 1 hb_ rfl rfl rfl), (by (with_reducible repeat (first | refine blk_drewN ?_ _ | refine blk_drew ?_ | refine blk_alloc ?_ _)); exact BK137.out), (by repeat (first | (with_reducible first | exact HB.out | apply below_alloc | apply pw_below_drewN | apply below_drew1 | refine below_set ?_ GE137.out) | exact HB.out)), z_HO146, Q_HA_HO146, Q_X8_⟩
      refine steps_cons ?_ ?_
      ·rintro b a w' ⟨v145, adz_v145, m8_, ha, Q_BK137, Q_HB, Q_HO146, Q_HA_HO146, Q_X8_⟩ hb_ hon hoff
       refine ⟨_, rfl, fun K hK => ?_⟩
       have e16 : a.tmps[16]? = some (.int .i64 20) := by rw [ha]; exact (putSel_off rfl).trans rfl
       replace ha := Aside0.mk ha
       have BK137 := Aside0.mk Q_BK137
       have HB := Aside0.mk Q_HB
       refine value_ (w1 := w') (v := .int .i64 (100 + 20)) (by rfl) rfl ?_ ?_
       ·go_simp
        (try simp only [i64_w])
        (first | rfl | (simp [wrap64]; done) | skip)
       refine hK.out _ _ ⟨v145, adz_v145, m8_, (by rw [ha.out]; exact putSel_upk 2 hb_ rfl rfl rfl), Q_BK137, Q_HB, Q_HO146, Q_HA_HO146, Q_X8_⟩
      refine steps_cons ?_ ?_
      ·rintro b a w' ⟨v145, adz_v145, m8_, ha, Q_BK137, Q_HB, Q_HO146, Q_HA_HO146, Q_X8_⟩ hb_ hon hoff
       refine ⟨_, rfl, fun K hK => ?_⟩
       have e15 : a.tmps[15]? = some (.int .i64 t143) := by rw [ha]; exact putSel_on (e := (1, 15, .int .i64 t143)) 1 rfl rfl (hon 1 (by kernel_rfl)) rfl
       have e17 : a.tmps[17]? = some (.int .i64 (100 + 20)) := by rw [ha]; exact putSel_on (e := (3, 17, .int .i64 (100 + 20))) 2 rfl rfl (hon 3 (by kernel_rfl)) rfl
       replace ha := Aside0.mk ha
       have BK137 := Aside0.mk Q_BK137
       have HB := Aside0.mk Q_HB
       refine value_ (w1 := w') (v := .int .i64 (wrap64 (t143 * (100 + 20)))) (by rfl) rfl ?_ ?_
       ·go_simp
        (try simp only [i64_w])
        (first | rfl | (simp [wrap64]; done) | skip)
       refine hK.out _ _ ⟨v145, adz_v145, m8_, (by rw [ha.out]; exact putSel_upk 3 hb_ rfl rfl rfl), Q_BK137, Q_HB, Q_HO146, Q_HA_HO146, Q_X8_⟩
      refine steps_cons ?_ ?_
      ·rintro b a w' ⟨v145, adz_v145, m8_, ha, Q_BK137, Q_HB, Q_HO146, Q_HA_HO146, Q_X8_⟩ hb_ hon hoff
       refine ⟨_, rfl, fun K hK => ?_⟩
       replace ha := Aside0.mk ha
       have BK137 := Aside0.mk Q_BK137
       have HB := Aside0.mk Q_HB
       refine Kd.R_lit_step (Kd.int .i64) _ 3 ?hg (N := 19) ?hd (xs := ([100, 80, 55, 30] : List Int)) (inner := [.int .i64 100, .int .i64 80, .int .i64 55, .int .i64 30]) (ok := fun _ => True) (okp := fun _ => True) ?hr ?hp (fun _ hk => hk) trivial (Below.refl _ _) (Nat.le_refl _) (by simp) ?_; (case hd => rfl); (case hg => rfl); (case hr => first | (go_simp; done) | (go_simp; rfl)); (case hp => exact (Reps.one (show Kd.M (Kd.int .i64) _ _ _ 100 [.int .i64 100] from rfl) (Reps.one (show Kd.M (Kd.int .i64) _ _ _ 80 [.int .i64 80] from rfl) (Reps.one (show Kd.M (Kd.int .i64) _ _ _ 55 [.int .i64 55] from rfl) (Reps.one (show Kd.M (Kd.int .i64) _ _ _ 30 [.int .i64 30] from rfl) (Reps.none _ _))))))
       intro v145 w25 ho26 hb hg_ hnew_
       clear hg_ hnew_
       (first | rw [← Ny144.out] at ho26 | (simp only [Int.reduceToNat] at ho26; rw [← Ny144.out] at ho26))
       have n0_ := Aside0.mk (Kd.R_lower ho26 (below_size (by repeat (first | (with_reducible first | exact HB.out | apply below_alloc | apply pw_below_drewN | apply below_drew1 | refine below_set ?_ GE137.out) | exact HB.out))))
       have n1_ := Aside0.mk (blk_below (g := gb137) (o := .cells #[.int .i64 a0_0, .int .i64 a0_1, .int .i64 a0_2, .int .i64 a0_3, .bool a0_4] 25 (0, 0)) (by (with_reducible repeat (first | refine blk_drewN ?_ _ | refine blk_drew ?_ | refine blk_alloc ?_ _)); exact BK137.out) hb)
       have n2_ := Aside0.mk (below_step (by repeat (first | (with_reducible first | exact HB.out | apply below_alloc | apply pw_below_drewN | apply below_drew1 | refine below_set ?_ GE137.out) | exact HB.out)) hb)
       clear BK137
       clear HB
       have HO146 := n0_
       have BK137 := n1_
       have HB := n2_
       clear n0_ n1_ n2_
       clear hb ho26
       obtain ⟨Ao27, co27, eo27⟩ := Kd.R_slice HO146.out
       subst eo27
       obtain ⟨ado27, fo27, _⟩ := Kd.at_int (Kd.R_reads' HO146.out).2.2 0 (by decide) (by rw [Ny144.out]; simp)
       cases fo27
       refine hK.out _ _ ⟨.slice (some ado27) y144.length co27, ado27, m8_, (by rw [ha.out]; exact putSel_upk 4 hb_ rfl rfl rfl), (by (with_reducible repeat (first | refine blk_drewN ?_ _ | refine blk_drew ?_ | refine blk_alloc ?_ _)); exact BK137.out), (by repeat (first | (with_reducible first | exact HB.out | apply below_alloc | apply pw_below_drewN | apply below_drew1 | refine below_set ?_ GE137.out) | exact HB.out)), fun _ => (by (with_reducible repeat (first | apply Kd.R_alloc | apply Kd.R_drewN | apply Kd.R_drew)); exact HO146.out), fun _ => ⟨_, rfl⟩, fun h0_ => absurd ((hoff 8 (by kernel_rfl)).symm.trans h0_) (by decide)⟩
      refine steps_cons ?_ ?_
      ·rintro b a w' ⟨v145, adz_v145, m8_, ha, Q_BK137, Q_HB, Q_HO146, Q_HA_HO146, Q_X8_⟩ hb_ hon hoff
       refine ⟨_, rfl, fun K hK => ?_⟩
       have e20 : a.tmps[20]? = some (.int .i64 a1) := by rw [ha]; exact (putSel_off rfl).trans rfl
       replace ha := Aside0.mk ha
       have BK137 := Aside0.mk Q_BK137
       have HB := Aside0.mk Q_HB
       refine value_ (w1 := w') (v := .int .i64 ji19) (by rfl) rfl ?_ ?_
       ·go_simp
        (try simp only [i64_w])
        (first | rfl | (simp [wrap64]; done) | skip)
       refine hK.out _ _ ⟨v145, adz_v145, m8_, (by rw [ha.out]; exact putSel_upk 5 hb_ rfl rfl rfl), Q_BK137, Q_HB, Q_HO146, Q_HA_HO146, fun h0_ => absurd ((hoff 8 (by kernel_rfl)).symm.trans h0_) (by decide)⟩
      refine steps_cons ?_ ?_
      ·rintro b a w' ⟨v145, adz_v145, m8_, ha, Q_BK137, Q_HB, Q_HO146, Q_HA_HO146, Q_X8_⟩ hb_ hon hoff
       refine ⟨_, rfl, fun K hK => ?_⟩
       have e19 : a.tmps[19]? = some (v145) := by rw [ha]; exact putSel_on (e := (5, 19, v145)) 4 rfl rfl (hon 5 (by kernel_rfl)) rfl
       have e21 : a.tmps[21]? = some (.int .i64 ji19) := by rw [ha]; exact putSel_on (e := (7, 21, .int .i64 ji19)) 5 rfl rfl (hon 7 (by kernel_rfl)) rfl
       replace ha := Aside0.mk ha
       have BK137 := Aside0.mk Q_BK137
       have HB := Aside0.mk Q_HB
       have HO146 := Aside0.mk (Q_HO146 (hon 5 (by kernel_rfl)))
       have HA_HO146 := Aside0.mk (Q_HA_HO146 (hon 5 (by kernel_rfl)))
       obtain ⟨c_, hv_⟩ := HA_HO146.out
       rw [hv_] at e19
       refine value_ (w1 := w') (v := .pointer (some (adz_v145.add ((ji19)).toNat))) (by rfl) rfl ?_ ?_
       ·go_simp
        (try simp only [i64_w])
        (first | rfl | (simp [wrap64]; done) | skip)
       refine hK.out _ _ ⟨v145, adz_v145, (.pointer (some (adz_v145.add ((ji19)).toNat))), (by rw [ha.out]; exact putSel_upk 6 hb_ rfl rfl rfl), Q_BK137, Q_HB, Q_HO146, Q_HA_HO146, fun _ => rfl⟩
      refine steps_cons ?_ ?_
      ·rintro b a w' ⟨v145, adz_v145, m8_, ha, Q_BK137, Q_HB, Q_HO146, Q_HA_HO146, Q_X8_⟩ hb_ hon hoff
       refine ⟨_, rfl, fun K hK => ?_⟩
       have e22 : a.tmps[22]? = some (m8_) := by rw [ha]; exact putSel_on (e := (8, 22, m8_)) 6 rfl rfl (hon 8 (by kernel_rfl)) rfl
       rw [Q_X8_ (hon 8 (by kernel_rfl))] at e22
       replace ha := Aside0.mk ha
       have BK137 := Aside0.mk Q_BK137
       have HB := Aside0.mk Q_HB
       have HO146 := Aside0.mk (Q_HO146 (hon 5 (by kernel_rfl)))
       have HA_HO146 := Aside0.mk (Q_HA_HO146 (hon 5 (by kernel_rfl)))
       obtain ⟨c_, hv_⟩ := HA_HO146.out
       have hF_ := HO146.out
       rw [hv_] at hF_
       obtain ⟨ad_, ea_, hx_⟩ := Kd.at_int (Kd.R_reads' hF_).2.2 (ji19) (of_eq_true pi147) (of_eq_true qi147)
       cases ea_
       refine value_ (w1 := w') (v := .int .i64 (rd y144 (ji19))) (by rfl) rfl ?_ ?_
       ·go_simp
        (try simp only [i64_w])
        (first | rfl | (simp [wrap64]; done) | skip)
       refine hK.out _ _ ⟨v145, adz_v145, m8_, (by rw [ha.out]; exact putSel_upk 7 hb_ rfl rfl rfl), Q_BK137, Q_HB, Q_HO146, Q_HA_HO146, Q_X8_⟩
      refine steps_cons ?_ ?_
      ·rintro b a w' ⟨v145, adz_v145, m8_, ha, Q_BK137, Q_HB, Q_HO146, Q_HA_HO146, Q_X8_⟩ hb_ hon hoff
       refine ⟨_, rfl, fun K hK => ?_⟩
       have e18 : a.tmps[18]? = some (.int .i64 (wrap64 (t143 * (100 + 20)))) := by rw [ha]; exact putSel_on (e := (4, 18, .int .i64 (wrap64 (t143 * (100 + 20))))) 3 rfl rfl (hon 4 (by kernel_rfl)) rfl
       have e23 : a.tmps[23]? = some (.int .i64 (rd y144 (ji19))) := by rw [ha]; exact putSel_on (e := (9, 23, .int .i64 (rd y144 (ji19)))) 7 rfl rfl (hon 9 (by kernel_rfl)) rfl
       replace ha := Aside0.mk ha
       have BK137 := Aside0.mk Q_BK137
       have HB := Aside0.mk Q_HB
       have HO146 := Aside0.mk (Q_HO146 (hon 5 (by kernel_rfl)))
       have HA_HO146 := Aside0.mk (Q_HA_HO146 (hon 5 (by kernel_rfl)))
       refine value_ (w1 := w') (v := .int .i64 (wrap64 ((wrap64 (t143 * (100 + 20))) * (rd y144 (ji19))))) (by rfl) rfl ?_ ?_
       ·go_simp
        (try simp only [i64_w])
        (first | rfl | (simp [wrap64]; done) | skip)
       refine hK.out _ _ ⟨v145, adz_v145, m8_, (by rw [ha.out]; exact putSel_upk 8 hb_ rfl rfl rfl), Q_BK137, Q_HB, Q_HO146, Q_HA_HO146, Q_X8_⟩
      refine steps_cons ?_ ?_
      ·rintro b a w' ⟨v145, adz_v145, m8_, ha, Q_BK137, Q_HB, Q_HO146, Q_HA_HO146, Q_X8_⟩ hb_ hon hoff
       refine ⟨_, rfl, fun K hK => ?_⟩
       have e24 : a.tmps[24]? = some (.int .i64 (wrap64 ((wrap64 (t143 * (100 + 20))) * (rd y144 (ji19))))) := by rw [ha]; exact putSel_on (e := (10, 24, .int .i64 (wrap64 ((wrap64 (t143 * (100 + 20))) * (rd y144 (ji19)))))) 8 rfl rfl (hon 10 (by kernel_rfl)) rfl
       replace ha := Aside0.mk ha
       have BK137 := Aside0.mk Q_BK137
       have HB := Aside0.mk Q_HB
       have HO146 := Aside0.mk (Q_HO146 (hon 5 (by kernel_rfl)))
       have HA_HO146 := Aside0.mk (Q_HA_HO146 (hon 5 (by kernel_rfl)))
       refine value_ (w1 := w') (v := .int .i64 (wrap64 (Int.tdiv (wrap64 ((wrap64 (t143 * (100 + 20))) * (rd y144 (ji19)))) 10000))) (by rfl) rfl ?_ ?_
       ·go_simp
        (try simp only [i64_w])
        (first | rfl | (simp [wrap64]; done) | skip)
       refine hK.out _ _ ⟨v145, adz_v145, m8_, (by rw [ha.out]; exact putSel_upk 9 hb_ rfl rfl rfl), Q_BK137, Q_HB, Q_HO146, Q_HA_HO146, Q_X8_⟩
      refine steps_cons ?_ ?_
      ·rintro b a w' ⟨v145, adz_v145, m8_, ha, Q_BK137, Q_HB, Q_HO146, Q_HA_HO146, Q_X8_⟩ hb_ hon hoff
       refine ⟨_, rfl, fun K hK => ?_⟩
       have e25 : a.tmps[25]? = some (.int .i64 (wrap64 (Int.tdiv (wrap64 ((wrap64 (t143 * (100 + 20))) * (rd y144 (ji19)))) 10000))) := by rw [ha]; exact putSel_on (e := (11, 25, .int .i64 (wrap64 (Int.tdiv (wrap64 ((wrap64 (t143 * (100 + 20))) * (rd y144 (ji19)))) 10000)))) 9 rfl rfl (hon 11 (by kernel_rfl)) rfl
       replace ha := Aside0.mk ha
       have BK137 := Aside0.mk Q_BK137
       have HB := Aside0.mk Q_HB
       have HO146 := Aside0.mk (Q_HO146 (hon 5 (by kernel_rfl)))
       have HA_HO146 := Aside0.mk (Q_HA_HO146 (hon 5 (by kernel_rfl)))
       refine value_ (w1 := w') (v := .int .i64 (wrap64 (Int.tdiv (wrap64 ((wrap64 (t143 * (100 + 20))) * (rd y144 (ji19)))) 10000))) (by rfl) rfl ?_ ?_
       ·go_simp
        (try simp only [i64_w])
        (first | rfl | (simp [wrap64]; done) | skip)
       refine hK.out _ _ ⟨v145, adz_v145, m8_, (by rw [ha.out]; exact putSel_upk 10 hb_ rfl rfl rfl), Q_BK137, Q_HB, Q_HO146, Q_HA_HO146, Q_X8_⟩
      exact steps_nil
     rintro b a w29 hall ⟨v145, adz_v145, m8_, ha, Q_BK137, Q_HB, Q_HO146, Q_HA_HO146, Q_X8_⟩
     clear BK137 HB
     have hb0_ := hall 0 (by kernel_rfl)
     have hb1_ := hall 1 (by kernel_rfl)
     have hb3_ := hall 3 (by kernel_rfl)
     have hb4_ := hall 4 (by kernel_rfl)
     have hb5_ := hall 5 (by kernel_rfl)
     have hb7_ := hall 7 (by kernel_rfl)
     have hb8_ := hall 8 (by kernel_rfl)
     have hb9_ := hall 9 (by kernel_rfl)
     have hb10_ := hall 10 (by kernel_rfl)
     have hb11_ := hall 11 (by kernel_rfl)
     have hb12_ := hall 12 (by kernel_rfl)
     subst ha
     obtain rfl := Q_X8_ hb8_
     simp only [putSel, hb0_, hb1_, hb3_, hb4_, hb5_, hb7_, hb8_, hb9_, hb10_, hb11_, hb12_, if_true, Act.put, List.setIfInBounds_toArray, List.set_cons_zero, List.set_cons_succ]
     have BK137 := Aside0.mk Q_BK137
     clear Q_BK137
     have HB := Aside0.mk Q_HB
     clear Q_HB
     have HO146 := Aside0.mk (Q_HO146 hb5_)
     clear Q_HO146
     have HA_HO146 := Aside0.mk (Q_HA_HO146 hb5_)
     clear Q_HA_HO146
     clear hall hb0_ hb1_ hb3_ hb4_ hb5_ hb7_ hb8_ hb9_ hb10_ hb11_ hb12_
     obtain ⟨co30, eo30⟩ := HA_HO146.out
     clear HA_HO146
     subst eo30
     try go_wp2
     go_ret
     exact ⟨by first | rfl | (simp [errW_none, errW_some] <;> rfl) | (simp only [← hji19]; first | rfl | (simp [errW_none, errW_some] <;> rfl)) | (simp [*, errW_none, errW_some] <;> rfl) | (simp [wrap64]; done), by repeat (first | (with_reducible first | exact HB.out | apply below_alloc | apply pw_below_drewN | apply below_drew1 | refine below_set ?_ GE137.out) | exact HB.out)⟩
    ·rw [if_neg c21] at H
     exact absurd H (by simp)
   ·rw [if_neg c20] at H
    exact absurd H (by simp)
  ·rw [if_neg c17] at H
   have c17b0 : decide (50 ≤ a0_2) = false := decide_eq_false c17
   clear c17
   replace H := Option.bind_eq_some_iff.mp H
   obtain ⟨t148, A310, H⟩ := H
   have A31 := Aside0.mk A310
   clear A310
   obtain ⟨y149, hy149⟩ : ∃ y_ : List Int, y_ = (([100, 80, 55, 30] : List Int)) := ⟨_, rfl⟩
   replace H : (if 0 ≤ (wrap64 (a1 - 1)) then (if (wrap64 (a1 - 1)) < (y149.length : Int) then (some (wrap64 (Int.tdiv (wrap64 ((wrap64 (t148 * 100)) * (rd y149 (wrap64 (a1 - 1))))) 10000))) else (none)) else (none)) = some r := by first | (rw [hy149]; with_reducible exact H) | (have H2_ := (Option.bind_some _ _).symm.trans H; rw [hy149]; with_reducible exact H2_) | (have H2_ := (Option.bind_some _ _).symm.trans H; with_reducible exact H2_) | with_reducible exact H | (rw [hy149]; exact H) | exact H
   have Ny149 := Aside0.mk hy149
   clear hy149
   obtain ⟨ji32, hji32⟩ : ∃ j_ : Int, (wrap64 (a1 - 1)) = j_ := ⟨_, rfl⟩
   replace H : (if 0 ≤ (ji32) then (if (ji32) < (y149.length : Int) then (some (wrap64 (Int.tdiv (wrap64 ((wrap64 (t148 * 100)) * (rd y149 (ji32)))) 10000))) else (none)) else (none)) = some r := by first | (rw [hji32] at H; exact H) | (simp only [hji32] at H ⊢; exact H)
   (try rw [hji32] at A31)
   have hji32w : (IntKind.i64.wrap (a1 - 1)) = ji32 := (i64_w _).trans hji32
   by_cases c33 : 0 ≤ (ji32)
   ·rw [if_pos c33] at H
    have c33b0 : decide (0 ≤ (ji32)) = true := decide_eq_true c33
    clear c33
    by_cases c34 : (ji32) < (y149.length : Int)
    ·rw [if_pos c34] at H
     have c34b0 : decide ((ji32) < (y149.length : Int)) = true := decide_eq_true c34
     clear c34
     obtain rfl := Option.some.inj H
     go_enter Try.func56, Try.ntmps56
     try go_wp2_with (first | ((with_reducible refine gate_dst (N := 2) rfl ?_); refine box_event ?hg (N := 2) ?hd (cs := #[.int .i64 a0_0, .int .i64 a0_1, .int .i64 a0_2, .int .i64 a0_3, .bool a0_4]) (t := 25) ?hr ?_; (case hd => rfl); (case hg => rfl); (case hr => first | (go_simp; done) | (go_simp; rfl)); intro gb137 hg w35 hbox hb; have n0_ := Aside0.mk (below_step (by repeat (first | (with_reducible first | exact HB.out | apply below_alloc | apply pw_below_drewN | apply below_drew1) | exact HB.out)) hb); have n1_ := Aside0.mk (hbox); have n2_ := Aside0.mk ((by rw [hg]; exact (below_size (by repeat (first | (with_reducible first | exact HB.out | apply below_alloc | apply pw_below_drewN | apply below_drew1) | exact HB.out))) : w.heap.size ≤ gb137)); have n3_ := Aside0.mk ((by rw [hg]; exact (below_size (by repeat (first | (with_reducible first | exact HB.out | apply below_alloc | apply pw_below_drewN | apply below_drew1) | exact HB.out))) : w.heap.size ≤ gb137)); clear HB; have HB := n0_; have BK137 := n1_; have GW137 := n2_; have GE137 := n3_; clear n0_ n1_ n2_ n3_; clear hb hbox hg; have hcz36_0 : w35.cell? ⟨gb137, 0, none⟩ = some (.int .i64 a0_0) := (blk_cell BK137.out 0).trans rfl; have hcz36_1 : w35.cell? ⟨gb137, 1, none⟩ = some (.int .i64 a0_1) := (blk_cell BK137.out 1).trans rfl; have hcz36_2 : w35.cell? ⟨gb137, 2, none⟩ = some (.int .i64 a0_2) := (blk_cell BK137.out 2).trans rfl; have hcz36_3 : w35.cell? ⟨gb137, 3, none⟩ = some (.int .i64 a0_3) := (blk_cell BK137.out 3).trans rfl; have hcz36_4 : w35.cell? ⟨gb137, 4, none⟩ = some (.bool a0_4) := (blk_cell BK137.out 4).trans rfl; have hfz36_0 := blk_frozen BK137.out 0; have hfz36_1 := blk_frozen BK137.out 1; have hfz36_2 := blk_frozen BK137.out 2; have hfz36_3 := blk_frozen BK137.out 3; have hfz36_4 := blk_frozen BK137.out 4))
     have pi152 : (0 ≤ ((ji32) : Int)) = True := eq_true (of_decide_eq_true (by first | (with_reducible assumption) | assumption))
     have qi152 : ((ji32) < (y149.length : Int)) = True := eq_true (of_decide_eq_true (by first | (with_reducible assumption) | assumption))
     have n0_ := Aside0.mk (blk_drew BK137.out)
     have n1_ := Aside0.mk (below_drew1 HB.out)
     clear BK137
     clear HB
     have BK137 := n0_
     have HB := n1_
     clear n0_ n1_
     refine start_ (n := 13) (S := fun w' => True) (ds := []) D0_56 (by kernel_rfl) rfl rfl trivial (fun hHeld => ?_); refine with_tabW spec_l24Value.tab6 spec_l24Value.bits6 (fun HT_ HW_ => ?_)
     generalize w35.drew = w37 at BK137 HB hHeld ⊢
     refine pure_ (i := 2) (N := some 16) (v := ?_) (a' := ?_) D1_56 rfl rfl (any_of HT_.out (by kernel_rfl)) (fun _ _ _ h => h) (Or.inl ⟨by rfl, ?_⟩) ?_ ?_
     rotate_left
     ·intro w'
      go_simp
      with_reducible rfl
     rotate_left
     ·simp only [Act.put, sS_, sZ_, sC_, i64_w, i32_w]
      rfl
     refine pure_ (i := 6) (N := some 20) (v := ?_) (a' := ?_) D2_56 rfl rfl (any_of HT_.out (by kernel_rfl)) (fun _ _ _ h => h) (Or.inl ⟨by rfl, ?_⟩) ?_ ?_
     rotate_left
     ·intro w'
      go_simp
      with_reducible rfl
     rotate_left
     ·simp only [Act.put, sS_, sZ_, sC_, i64_w, i32_w]
      rfl
     refine inv_at [0, 1, 3, 4, 5, 7, 8, 9, 10, 11, 12] (fun a0_ b a w' => ∃ (v150 : Value) (adz_v150 : Addr) (m8_ : Value), a = putSel a0_ b [(0, 14, .agg #[.int .i64 a0_0, .int .i64 a0_1, .int .i64 a0_2, .int .i64 a0_3, .bool a0_4]), (1, 15, .int .i64 t148), (3, 17, .int .i64 100), (4, 18, .int .i64 (wrap64 (t148 * 100))), (5, 19, v150), (7, 21, .int .i64 ji32), (8, 22, m8_), (9, 23, .int .i64 (rd y149 (ji32))), (10, 24, .int .i64 (wrap64 ((wrap64 (t148 * 100)) * (rd y149 (ji32))))), (11, 25, .int .i64 (wrap64 (Int.tdiv (wrap64 ((wrap64 (t148 * 100)) * (rd y149 (ji32)))) 10000))), (12, 4, .int .i64 (wrap64 (Int.tdiv (wrap64 ((wrap64 (t148 * 100)) * (rd y149 (ji32)))) 10000)))] ∧ (w'.heap[gb137]? = some (.cells #[.int .i64 a0_0, .int .i64 a0_1, .int .i64 a0_2, .int .i64 a0_3, .bool a0_4] 25 (0, 0))) ∧ (Below w.heap.size w w') ∧ (b 5 = true → Kd.R (Kd.int .i64) 3 w' w.heap.size (fun _ => True) v150 y149) ∧ (b 5 = true → ∃ c_, (v150 : Value) = .slice (some adz_v150) y149.length c_) ∧ (b 8 = true → (m8_ : Value) = .pointer (some (adz_v150.add ((ji32)).toNat)))) HT_.out HW_.out (by kernel_rfl) (by kernel_rfl) ?_ ?_ ?_
     ·exact ⟨.bool false, ⟨0, 0, none⟩, .bool false, by simp only [putSel, Bool.false_eq_true, if_false], BK137.out, HB.out, fun h_ => absurd h_ (by decide), fun h_ => absurd h_ (by decide), fun h_ => absurd h_ (by decide)⟩
     ·skip
      clear BK137 HB
      refine steps_cons ?_ ?_
      ·rintro b a w' ⟨v150, adz_v150, m8_, ha, Q_BK137, Q_HB, Q_HO151, Q_HA_HO151, Q_X8_⟩ hb_ hon hoff
       refine ⟨_, rfl, fun K hK => ?_⟩
       have e2 : a.tmps[2]? = some (.pointer (some ⟨gb137, 0, none⟩)) := by rw [ha]; exact (putSel_off rfl).trans rfl
       replace ha := Aside0.mk ha
       have BK137 := Aside0.mk Q_BK137
       have HB := Aside0.mk Q_HB
       have hc0_ : w'.cell? ⟨gb137, 0, none⟩ = some (.int .i64 a0_0) := (blk_cell BK137.out 0).trans rfl
       have hc1_ : w'.cell? ⟨gb137, 1, none⟩ = some (.int .i64 a0_1) := (blk_cell BK137.out 1).trans rfl
       have hc2_ : w'.cell? ⟨gb137, 2, none⟩ = some (.int .i64 a0_2) := (blk_cell BK137.out 2).trans rfl
       have hc3_ : w'.cell? ⟨gb137, 3, none⟩ = some (.int .i64 a0_3) := (blk_cell BK137.out 3).trans rfl
       have hc4_ : w'.cell? ⟨gb137, 4, none⟩ = some (.bool a0_4) := (blk_cell BK137.out 4).trans rfl
       refine value_ (w1 := w') (v := .agg #[.int .i64 a0_0, .int .i64 a0_1, .int .i64 a0_2, .int .i64 a0_3, .bool a0_4]) (by rfl) rfl ?_ ?_
       ·go_simp
        (try simp only [i64_w])
        (first | rfl | (simp [wrap64]; done) | skip)
       refine hK.out _ _ ⟨v150, adz_v150, m8_, (by rw [ha.out]; exact putSel_upk 0 hb_ rfl rfl rfl), Q_BK137, Q_HB, Q_HO151, Q_HA_HO151, Q_X8_⟩
      refine steps_cons ?_ ?_
      ·rintro b a w' ⟨v150, adz_v150, m8_, ha, Q_BK137, Q_HB, Q_HO151, Q_HA_HO151, Q_X8_⟩ hb_ hon hoff
       refine ⟨_, rfl, fun K hK => ?_⟩
       have e14 : a.tmps[14]? = some (.agg #[.int .i64 a0_0, .int .i64 a0_1, .int .i64 a0_2, .int .i64 a0_3, .bool a0_4]) := by rw [ha]; exact putSel_on (e := (0, 14, .agg #[.int .i64 a0_0, .int .i64 a0_1, .int .i64 a0_2, .int .i64 a0_3, .bool a0_4])) 0 rfl rfl (hon 0 (by kernel_rfl)) rfl
       replace ha := Aside0.mk ha
       have BK137 := Aside0.mk Q_BK137
       have HB := Aside0.mk Q_HB
       refine goes_ Try.func54 (by kernel_rfl) rfl #[.agg #[.int .i64 a0_0, .int .i64 a0_1, .int .i64 a0_2, .int .i64 a0_3, .bool a0_4]] (by rfl) rfl rfl (by first | (simp only [List.map_toArray, List.map_cons, List.map_nil, Act.eval, Array.getD_eq_getD_getElem?, Option.getD_some, e14]; done) | (simp only [List.map_toArray, List.map_cons, List.map_nil, Act.eval, Array.getD_eq_getD_getElem?, Option.getD_some, e14]; rfl)) ?_
       with_reducible refine (spec_l24Base.calls a0_0 a0_1 a0_2 a0_3 a0_4 t148 _ A31.out).mono ?_
       rintro e w38 ⟨rfl, hb⟩
       refine ⟨_, rfl, ?_⟩
       have n0_ := Aside0.mk (blk_below (g := gb137) (o := .cells #[.int .i64 a0_0, .int .i64 a0_1, .int .i64 a0_2, .int .i64 a0_3, .bool a0_4] 25 (0, 0)) (by (with_reducible repeat (first | refine blk_drewN ?_ _ | refine blk_drew ?_ | refine blk_alloc ?_ _)); exact BK137.out) hb)
       have n1_ := Aside0.mk (below_step (by repeat (first | (with_reducible first | exact HB.out | apply below_alloc | apply pw_below_drewN | apply below_drew1 | refine below_set ?_ GE137.out) | exact HB.out)) hb)
       have z_HO151 := fun (h0_ : b 5 = true) => (show Kd.R (Kd.int .i64) 3 w38 w.heap.size (fun _ => True) v150 y149 from by first | exact (Kd.R_below (by (with_reducible repeat (first | apply Kd.R_alloc | apply Kd.R_drewN | apply Kd.R_drew)); exact (Q_HO151 h0_)) hb) | exact Kd.R_mono (Kd.R_below (by (with_reducible repeat (first | apply Kd.R_alloc | apply Kd.R_drewN | apply Kd.R_drew)); exact (Q_HO151 h0_)) hb) (fun _ h_ => by first | trivial | exact h_ | exact h_.1))
       clear BK137
       clear HB
       have BK137 := n0_
       have HB := n1_
       clear n0_ n1_
       (try clear hb)
       (try clear hb2)
       (try clear hk)
       (try clear hi)
       refine hK.out _ _ ⟨v150, adz_v150, m8_, (by rw [ha.out]; exact putSel_upk 1 hb_ rfl rfl rfl), (by (with_reducible repeat (first | refine blk_drewN ?_ _ | refine blk_drew ?_ | refine blk_alloc ?_ _)); exact BK137.out), (by repeat (first | (with_reducible first | exact HB.out | apply below_alloc | apply pw_below_drewN | apply below_drew1 | refine below_set ?_ GE137.out) | exact HB.out)), z_HO151, Q_HA_HO151, Q_X8_⟩
      refine steps_cons ?_ ?_
      ·rintro b a w' ⟨v150, adz_v150, m8_, ha, Q_BK137, Q_HB, Q_HO151, Q_HA_HO151, Q_X8_⟩ hb_ hon hoff
       refine ⟨_, rfl, fun K hK => ?_⟩
       have e16 : a.tmps[16]? = some (.int .i64 0) := by rw [ha]; exact (putSel_off rfl).trans rfl
       replace ha := Aside0.mk ha
       have BK137 := Aside0.mk Q_BK137
       have HB := Aside0.mk Q_HB
       refine value_ (w1 := w') (v := .int .i64 100) (by rfl) rfl ?_ ?_
       ·go_simp
        (try simp only [i64_w])
        (first | rfl | (simp [wrap64]; done) | skip)
       refine hK.out _ _ ⟨v150, adz_v150, m8_, (by rw [ha.out]; exact putSel_upk 2 hb_ rfl rfl rfl), Q_BK137, Q_HB, Q_HO151, Q_HA_HO151, Q_X8_⟩
      refine steps_cons ?_ ?_
      ·rintro b a w' ⟨v150, adz_v150, m8_, ha, Q_BK137, Q_HB, Q_HO151, Q_HA_HO151, Q_X8_⟩ hb_ hon hoff
       refine ⟨_, rfl, fun K hK => ?_⟩
       have e15 : a.tmps[15]? = some (.int .i64 t148) := by rw [ha]; exact putSel_on (e := (1, 15, .int .i64 t148)) 1 rfl rfl (hon 1 (by kernel_rfl)) rfl
       have e17 : a.tmps[17]? = some (.int .i64 100) := by rw [ha]; exact putSel_on (e := (3, 17, .int .i64 100)) 2 rfl rfl (hon 3 (by kernel_rfl)) rfl
       replace ha := Aside0.mk ha
       have BK137 := Aside0.mk Q_BK137
       have HB := Aside0.mk Q_HB
       refine value_ (w1 := w') (v := .int .i64 (wrap64 (t148 * 100))) (by rfl) rfl ?_ ?_
       ·go_simp
        (try simp only [i64_w])
        (first | rfl | (simp [wrap64]; done) | skip)
       refine hK.out _ _ ⟨v150, adz_v150, m8_, (by rw [ha.out]; exact putSel_upk 3 hb_ rfl rfl rfl), Q_BK137, Q_HB, Q_HO151, Q_HA_HO151, Q_X8_⟩
      refine steps_cons ?_ ?_
      ·rintro b a w' ⟨v150, adz_v150, m8_, ha, Q_BK137, Q_HB, Q_HO151, Q_HA_HO151, Q_X8_⟩ hb_ hon hoff
       refine ⟨_, rfl, fun K hK => ?_⟩
       replace ha := Aside0.mk ha
       have BK137 := Aside0.mk Q_BK137
       have HB := Aside0.mk Q_HB
       refine Kd.R_lit_step (Kd.int .i64) _ 3 ?hg (N := 19) ?hd (xs := ([100, 80, 55, 30] : List Int)) (inner := [.int .i64 100, .int .i64 80, .int .i64 55, .int .i64 30]) (ok := fun _ => True) (okp := fun _ => True) ?hr ?hp (fun _ hk => hk) trivial (Below.refl _ _) (Nat.le_refl _) (by simp) ?_; (case hd => rfl); (case hg => rfl); (case hr => first | (go_simp; done) | (go_simp; rfl)); (case hp => exact (Reps.one (show Kd.M (Kd.int .i64) _ _ _ 100 [.int .i64 100] from rfl) (Reps.one (show Kd.M (Kd.int .i64) _ _ _ 80 [.int .i64 80] from rfl) (Reps.one (show Kd.M (Kd.int .i64) _ _ _ 55 [.int .i64 55] from rfl) (Reps.one (show Kd.M (Kd.int .i64) _ _ _ 30 [.int .i64 30] from rfl) (Reps.none _ _))))))
       intro v150 w38 ho39 hb hg_ hnew_
       clear hg_ hnew_
       (first | rw [← Ny149.out] at ho39 | (simp only [Int.reduceToNat] at ho39; rw [← Ny149.out] at ho39))
       have n0_ := Aside0.mk (Kd.R_lower ho39 (below_size (by repeat (first | (with_reducible first | exact HB.out | apply below_alloc | apply pw_below_drewN | apply below_drew1 | refine below_set ?_ GE137.out) | exact HB.out))))
       have n1_ := Aside0.mk (blk_below (g := gb137) (o := .cells #[.int .i64 a0_0, .int .i64 a0_1, .int .i64 a0_2, .int .i64 a0_3, .bool a0_4] 25 (0, 0)) (by (with_reducible repeat (first | refine blk_drewN ?_ _ | refine blk_drew ?_ | refine blk_alloc ?_ _)); exact BK137.out) hb)
       have n2_ := Aside0.mk (below_step (by repeat (first | (with_reducible first | exact HB.out | apply below_alloc | apply pw_below_drewN | apply below_drew1 | refine below_set ?_ GE137.out) | exact HB.out)) hb)
       clear BK137
       clear HB
       have HO151 := n0_
       have BK137 := n1_
       have HB := n2_
       clear n0_ n1_ n2_
       clear hb ho39
       obtain ⟨Ao40, co40, eo40⟩ := Kd.R_slice HO151.out
       subst eo40
       obtain ⟨ado40, fo40, _⟩ := Kd.at_int (Kd.R_reads' HO151.out).2.2 0 (by decide) (by rw [Ny149.out]; simp)
       cases fo40
       refine hK.out _ _ ⟨.slice (some ado40) y149.length co40, ado40, m8_, (by rw [ha.out]; exact putSel_upk 4 hb_ rfl rfl rfl), (by (with_reducible repeat (first | refine blk_drewN ?_ _ | refine blk_drew ?_ | refine blk_alloc ?_ _)); exact BK137.out), (by repeat (first | (with_reducible first | exact HB.out | apply below_alloc | apply pw_below_drewN | apply below_drew1 | refine below_set ?_ GE137.out) | exact HB.out)), fun _ => (by (with_reducible repeat (first | apply Kd.R_alloc | apply Kd.R_drewN | apply Kd.R_drew)); exact HO151.out), fun _ => ⟨_, rfl⟩, fun h0_ => absurd ((hoff 8 (by kernel_rfl)).symm.trans h0_) (by decide)⟩
      refine steps_cons ?_ ?_
      ·rintro b a w' ⟨v150, adz_v150, m8_, ha, Q_BK137, Q_HB, Q_HO151, Q_HA_HO151, Q_X8_⟩ hb_ hon hoff
       refine ⟨_, rfl, fun K hK => ?_⟩
       have e20 : a.tmps[20]? = some (.int .i64 a1) := by rw [ha]; exact (putSel_off rfl).trans rfl
       replace ha := Aside0.mk ha
       have BK137 := Aside0.mk Q_BK137
       have HB := Aside0.mk Q_HB
       refine value_ (w1 := w') (v := .int .i64 ji32) (by rfl) rfl ?_ ?_
       ·go_simp
        (try simp only [i64_w])
        (first | rfl | (simp [wrap64]; done) | skip)
       refine hK.out _ _ ⟨v150, adz_v150, m8_, (by rw [ha.out]; exact putSel_upk 5 hb_ rfl rfl rfl), Q_BK137, Q_HB, Q_HO151, Q_HA_HO151, fun h0_ => absurd ((hoff 8 (by kernel_rfl)).symm.trans h0_) (by decide)⟩
      refine steps_cons ?_ ?_
      ·rintro b a w' ⟨v150, adz_v150, m8_, ha, Q_BK137, Q_HB, Q_HO151, Q_HA_HO151, Q_X8_⟩ hb_ hon hoff
       refine ⟨_, rfl, fun K hK => ?_⟩
       have e19 : a.tmps[19]? = some (v150) := by rw [ha]; exact putSel_on (e := (5, 19, v150)) 4 rfl rfl (hon 5 (by kernel_rfl)) rfl
       have e21 : a.tmps[21]? = some (.int .i64 ji32) := by rw [ha]; exact putSel_on (e := (7, 21, .int .i64 ji32)) 5 rfl rfl (hon 7 (by kernel_rfl)) rfl
       replace ha := Aside0.mk ha
       have BK137 := Aside0.mk Q_BK137
       have HB := Aside0.mk Q_HB
       have HO151 := Aside0.mk (Q_HO151 (hon 5 (by kernel_rfl)))
       have HA_HO151 := Aside0.mk (Q_HA_HO151 (hon 5 (by kernel_rfl)))
       obtain ⟨c_, hv_⟩ := HA_HO151.out
       rw [hv_] at e19
       refine value_ (w1 := w') (v := .pointer (some (adz_v150.add ((ji32)).toNat))) (by rfl) rfl ?_ ?_
       ·go_simp
        (try simp only [i64_w])
        (first | rfl | (simp [wrap64]; done) | skip)
       refine hK.out _ _ ⟨v150, adz_v150, (.pointer (some (adz_v150.add ((ji32)).toNat))), (by rw [ha.out]; exact putSel_upk 6 hb_ rfl rfl rfl), Q_BK137, Q_HB, Q_HO151, Q_HA_HO151, fun _ => rfl⟩
      refine steps_cons ?_ ?_
      ·rintro b a w' ⟨v150, adz_v150, m8_, ha, Q_BK137, Q_HB, Q_HO151, Q_HA_HO151, Q_X8_⟩ hb_ hon hoff
       refine ⟨_, rfl, fun K hK => ?_⟩
       have e22 : a.tmps[22]? = some (m8_) := by rw [ha]; exact putSel_on (e := (8, 22, m8_)) 6 rfl rfl (hon 8 (by kernel_rfl)) rfl
       rw [Q_X8_ (hon 8 (by kernel_rfl))] at e22
       replace ha := Aside0.mk ha
       have BK137 := Aside0.mk Q_BK137
       have HB := Aside0.mk Q_HB
       have HO151 := Aside0.mk (Q_HO151 (hon 5 (by kernel_rfl)))
       have HA_HO151 := Aside0.mk (Q_HA_HO151 (hon 5 (by kernel_rfl)))
       obtain ⟨c_, hv_⟩ := HA_HO151.out
       have hF_ := HO151.out
       rw [hv_] at hF_
       obtain ⟨ad_, ea_, hx_⟩ := Kd.at_int (Kd.R_reads' hF_).2.2 (ji32) (of_eq_true pi152) (of_eq_true qi152)
       cases ea_
       refine value_ (w1 := w') (v := .int .i64 (rd y149 (ji32))) (by rfl) rfl ?_ ?_
       ·go_simp
        (try simp only [i64_w])
        (first | rfl | (simp [wrap64]; done) | skip)
       refine hK.out _ _ ⟨v150, adz_v150, m8_, (by rw [ha.out]; exact putSel_upk 7 hb_ rfl rfl rfl), Q_BK137, Q_HB, Q_HO151, Q_HA_HO151, Q_X8_⟩
      refine steps_cons ?_ ?_
      ·rintro b a w' ⟨v150, adz_v150, m8_, ha, Q_BK137, Q_HB, Q_HO151, Q_HA_HO151, Q_X8_⟩ hb_ hon hoff
       refine ⟨_, rfl, fun K hK => ?_⟩
       have e18 : a.tmps[18]? = some (.int .i64 (wrap64 (t148 * 100))) := by rw [ha]; exact putSel_on (e := (4, 18, .int .i64 (wrap64 (t148 * 100)))) 3 rfl rfl (hon 4 (by kernel_rfl)) rfl
       have e23 : a.tmps[23]? = some (.int .i64 (rd y149 (ji32))) := by rw [ha]; exact putSel_on (e := (9, 23, .int .i64 (rd y149 (ji32)))) 7 rfl rfl (hon 9 (by kernel_rfl)) rfl
       replace ha := Aside0.mk ha
       have BK137 := Aside0.mk Q_BK137
       have HB := Aside0.mk Q_HB
       have HO151 := Aside0.mk (Q_HO151 (hon 5 (by kernel_rfl)))
       have HA_HO151 := Aside0.mk (Q_HA_HO151 (hon 5 (by kernel_rfl)))
       refine value_ (w1 := w') (v := .int .i64 (wrap64 ((wrap64 (t148 * 100)) * (rd y149 (ji32))))) (by rfl) rfl ?_ ?_
       ·go_simp
        (try simp only [i64_w])
        (first | rfl | (simp [wrap64]; done) | skip)
       refine hK.out _ _ ⟨v150, adz_v150, m8_, (by rw [ha.out]; exact putSel_upk 8 hb_ rfl rfl rfl), Q_BK137, Q_HB, Q_HO151, Q_HA_HO151, Q_X8_⟩
      refine steps_cons ?_ ?_
      ·rintro b a w' ⟨v150, adz_v150, m8_, ha, Q_BK137, Q_HB, Q_HO151, Q_HA_HO151, Q_X8_⟩ hb_ hon hoff
       refine ⟨_, rfl, fun K hK => ?_⟩
       have e24 : a.tmps[24]? = some (.int .i64 (wrap64 ((wrap64 (t148 * 100)) * (rd y149 (ji32))))) := by rw [ha]; exact putSel_on (e := (10, 24, .int .i64 (wrap64 ((wrap64 (t148 * 100)) * (rd y149 (ji32)))))) 8 rfl rfl (hon 10 (by kernel_rfl)) rfl
       replace ha := Aside0.mk ha
       have BK137 := Aside0.mk Q_BK137
       have HB := Aside0.mk Q_HB
       have HO151 := Aside0.mk (Q_HO151 (hon 5 (by kernel_rfl)))
       have HA_HO151 := Aside0.mk (Q_HA_HO151 (hon 5 (by kernel_rfl)))
       refine value_ (w1 := w') (v := .int .i64 (wrap64 (Int.tdiv (wrap64 ((wrap64 (t148 * 100)) * (rd y149 (ji32)))) 10000))) (by rfl) rfl ?_ ?_
       ·go_simp
        (try simp only [i64_w])
        (first | rfl | (simp [wrap64]; done) | skip)
       refine hK.out _ _ ⟨v150, adz_v150, m8_, (by rw [ha.out]; exact putSel_upk 9 hb_ rfl rfl rfl), Q_BK137, Q_HB, Q_HO151, Q_HA_HO151, Q_X8_⟩
      refine steps_cons ?_ ?_
      ·rintro b a w' ⟨v150, adz_v150, m8_, ha, Q_BK137, Q_HB, Q_HO151, Q_HA_HO151, Q_X8_⟩ hb_ hon hoff
       refine ⟨_, rfl, fun K hK => ?_⟩
       have e25 : a.tmps[25]? = some (.int .i64 (wrap64 (Int.tdiv (wrap64 ((wrap64 (t148 * 100)) * (rd y149 (ji32)))) 10000))) := by rw [ha]; exact putSel_on (e := (11, 25, .int .i64 (wrap64 (Int.tdiv (wrap64 ((wrap64 (t148 * 100)) * (rd y149 (ji32)))) 10000)))) 9 rfl rfl (hon 11 (by kernel_rfl)) rfl
       replace ha := Aside0.mk ha
       have BK137 := Aside0.mk Q_BK137
       have HB := Aside0.mk Q_HB
       have HO151 := Aside0.mk (Q_HO151 (hon 5 (by kernel_rfl)))
       have HA_HO151 := Aside0.mk (Q_HA_HO151 (hon 5 (by kernel_rfl)))
       refine value_ (w1 := w') (v := .int .i64 (wrap64 (Int.tdiv (wrap64 ((wrap64 (t148 * 100)) * (rd y149 (ji32)))) 10000))) (by rfl) rfl ?_ ?_
       ·go_simp
        (try simp only [i64_w])
        (first | rfl | (simp [wrap64]; done) | skip)
       refine hK.out _ _ ⟨v150, adz_v150, m8_, (by rw [ha.out]; exact putSel_upk 10 hb_ rfl rfl rfl), Q_BK137, Q_HB, Q_HO151, Q_HA_HO151, Q_X8_⟩
      exact steps_nil
     rintro b a w42 hall ⟨v150, adz_v150, m8_, ha, Q_BK137, Q_HB, Q_HO151, Q_HA_HO151, Q_X8_⟩
     clear BK137 HB
     have hb0_ := hall 0 (by kernel_rfl)
     have hb1_ := hall 1 (by kernel_rfl)
     have hb3_ := hall 3 (by kernel_rfl)
     have hb4_ := hall 4 (by kernel_rfl)
     have hb5_ := hall 5 (by kernel_rfl)
     have hb7_ := hall 7 (by kernel_rfl)
     have hb8_ := hall 8 (by kernel_rfl)
     have hb9_ := hall 9 (by kernel_rfl)
     have hb10_ := hall 10 (by kernel_rfl)
     have hb11_ := hall 11 (by kernel_rfl)
     have hb12_ := hall 12 (by kernel_rfl)
     subst ha
     obtain rfl := Q_X8_ hb8_
     simp only [putSel, hb0_, hb1_, hb3_, hb4_, hb5_, hb7_, hb8_, hb9_, hb10_, hb11_, hb12_, if_true, Act.put, List.setIfInBounds_toArray, List.set_cons_zero, List.set_cons_succ]
     have BK137 := Aside0.mk Q_BK137
     clear Q_BK137
     have HB := Aside0.mk Q_HB
     clear Q_HB
     have HO151 := Aside0.mk (Q_HO151 hb5_)
     clear Q_HO151
     have HA_HO151 := Aside0.mk (Q_HA_HO151 hb5_)
     clear Q_HA_HO151
     clear hall hb0_ hb1_ hb3_ hb4_ hb5_ hb7_ hb8_ hb9_ hb10_ hb11_ hb12_
     obtain ⟨co43, eo43⟩ := HA_HO151.out
     clear HA_HO151
     subst eo43
     try go_wp2
     go_ret
     exact ⟨by first | rfl | (simp [errW_none, errW_some] <;> rfl) | (simp only [← hji32]; first | rfl | (simp [errW_none, errW_some] <;> rfl)) | (simp [*, errW_none, errW_some] <;> rfl) | (simp [wrap64]; done), by repeat (first | (with_reducible first | exact HB.out | apply below_alloc | apply pw_below_drewN | apply below_drew1 | refine below_set ?_ GE137.out) | exact HB.out)⟩
    ·rw [if_neg c34] at H
     exact absurd H (by simp)
   ·rw [if_neg c33] at H
    exact absurd H (by simp)

end Go.Proofs.Ytembbdhhpblapaa.Q
