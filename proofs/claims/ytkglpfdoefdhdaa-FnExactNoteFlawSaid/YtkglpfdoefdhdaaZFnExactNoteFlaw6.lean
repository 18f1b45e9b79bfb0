/- The program's NoteFlaw returns what the reference's returns, for all arguments: no condition. -/
import Derived.KernelRfl
import Derived.Test.YtkglpfdoefdhdaaRows
import Derived.WalkKit
import Derived.ProofKit
import Derived.OpenShut
import Derived.ShutString
import Derived.ChangeOld
import Derived.Below
import Derived.SizedLaws
import Derived.Carry
import Derived.ChangeVars
import Derived.Test.YtkglpfdoefdhdaaZFnExactNoteFlaw5
namespace Go.Proofs.Ytkglpfdoefdhdaa.Q
open Go.RowKit Go.Proofs.YtkglpfdoefdhdaaW.PrintWords Go.Proofs.YtkglpfdoefdhdaaW.PrintLast Go.Proofs.YtkglpfdoefdhdaaW.PrintMore
attribute [local go_sem] max2_int min2_int max_two min_two max_three min_three max_four min_four
set_option linter.unusedVariables false
set_option linter.unusedSimpArgs false

/-! ### spec_l22Good: function 90 -/
abbrev D0_90 : Array Bool := #[false, false, false, false, false, false, false, false, false, false, false, false, false, false, false, false, false, false, false, false, false, false, false, false]
abbrev D1_90 : Array Bool := #[false, true, false, false, false, false, false, false, false, false, false, false, false, false, false, false, false, false, false, false, false, false, false, false]
abbrev D2_90 : Array Bool := #[false, true, true, false, false, false, false, false, false, false, false, false, false, false, false, false, false, false, false, false, false, false, false, false]
abbrev D3_90 : Array Bool := #[false, true, true, true, false, false, false, false, false, false, false, false, false, false, false, false, false, false, false, false, false, false, false, false]
abbrev D4_90 : Array Bool := #[true, true, true, true, false, false, false, false, false, false, false, false, false, false, false, false, false, false, false, false, false, false, false, false]
abbrev D5_90 : Array Bool := #[true, true, true, true, true, false, false, false, false, false, false, false, false, false, false, false, false, false, false, false, false, false, false, false]
abbrev D6_90 : Array Bool := #[true, true, true, true, true, true, false, false, false, false, false, false, false, false, false, false, false, false, false, false, false, false, false, false]
abbrev D7_90 : Array Bool := #[true, true, true, true, true, true, true, false, false, false, false, false, false, false, false, false, false, false, false, false, false, false, false, false]
abbrev D8_90 : Array Bool := #[true, true, true, true, true, true, true, true, false, false, false, false, false, false, false, false, false, false, false, false, false, false, false, false]
abbrev D9_90 : Array Bool := #[true, true, true, true, true, true, true, true, true, false, false, false, false, false, false, false, false, false, false, false, false, false, false, false]
abbrev D10_90 : Array Bool := #[true, true, true, true, true, true, true, true, true, true, false, false, false, false, false, false, false, false, false, false, false, false, false, false]
abbrev D11_90 : Array Bool := #[true, true, true, true, true, true, true, true, true, true, true, false, false, false, false, false, false, false, false, false, false, false, false, false]
abbrev D12_90 : Array Bool := #[true, true, true, true, true, true, true, true, true, true, true, true, false, false, false, false, false, false, false, false, false, false, false, false]
abbrev D13_90 : Array Bool := #[true, true, true, true, true, true, true, true, true, true, true, true, true, false, false, false, false, false, false, false, false, false, false, false]
abbrev D14_90 : Array Bool := #[true, true, true, true, true, true, true, true, true, true, true, true, true, true, false, false, false, false, false, false, false, false, false, false]
abbrev D15_90 : Array Bool := #[true, true, true, true, true, true, true, true, true, true, true, true, true, true, true, false, false, false, false, false, false, false, false, false]
abbrev D16_90 : Array Bool := #[true, true, true, true, true, true, true, true, true, true, true, true, true, true, true, false, true, false, false, false, false, false, false, false]
abbrev D17_90 : Array Bool := #[true, true, true, true, true, true, true, true, true, true, true, true, true, true, true, false, true, true, false, false, false, false, false, false]
abbrev D18_90 : Array Bool := #[true, true, true, true, true, true, true, true, true, true, true, true, true, true, true, false, true, true, true, false, false, false, false, false]
abbrev D19_90 : Array Bool := #[true, true, true, true, true, true, true, true, true, true, true, true, true, true, true, true, true, true, true, false, false, false, false, false]
abbrev D20_90 : Array Bool := #[true, true, true, true, true, true, true, true, true, true, true, true, true, true, true, true, true, true, true, true, false, false, false, false]
abbrev D21_90 : Array Bool := #[true, true, true, true, true, true, true, true, true, true, true, true, true, true, true, true, true, true, true, true, true, false, false, false]
abbrev D22_90 : Array Bool := #[true, true, true, true, true, true, true, true, true, true, true, true, true, true, true, true, true, true, true, true, true, true, false, false]
abbrev D23_90 : Array Bool := #[true, true, true, true, true, true, true, true, true, true, true, true, true, true, true, true, true, true, true, true, true, true, true, false]
abbrev D24_90 : Array Bool := #[true, true, true, true, true, true, true, true, true, true, true, true, true, true, true, true, true, true, true, true, true, true, true, true]
abbrev D25_90 : Array Bool := #[true, true, true, true, true, true, true, true, true, true, true, true, true, true, true, true, false, false, false, false, false, false, false, false]
abbrev D26_90 : Array Bool := #[true, true, true, true, true, true, true, true, true, true, true, true, true, true, true, true, true, false, false, false, false, false, false, false]
abbrev D27_90 : Array Bool := #[true, true, true, true, true, true, true, true, true, true, true, true, true, true, true, true, true, true, false, false, false, false, false, false]
def spec_l22Good.l0 : Nat → List (S35) → Int → Int → Int → List Int → Option (Bool)
 | 0, _, _, _, _, _ => none
 | k + 1, x1, x5, x783000, x783001, x783002 => if x5 < (x1.length : Int) then (if 0 ≤ x5 then ((spec_l22One.f k x783000 x783001 x783002 ((rd_T35 x1 x5).f0) ((rd_T35 x1 x5).f1) ((rd_T35 x1 x5).f2) ((rd_T35 x1 x5).f3)).bind fun t785 => (if t785 = true then (if x5 > 0 then (if 0 ≤ (wrap64 (x5 - 1)) then (if (wrap64 (x5 - 1)) < (x1.length : Int) then ((spec_l22Before.f ((rd_T35 x1 (wrap64 (x5 - 1))).f0) ((rd_T35 x1 (wrap64 (x5 - 1))).f1) ((rd_T35 x1 (wrap64 (x5 - 1))).f2) ((rd_T35 x1 (wrap64 (x5 - 1))).f3) ((rd_T35 x1 x5).f0) ((rd_T35 x1 x5).f1) ((rd_T35 x1 x5).f2) ((rd_T35 x1 x5).f3)).bind fun t788 => (if t788 = true then (spec_l22Good.l0 k x1 (wrap64 (x5 + 1)) x783000 x783001 x783002) else (some false))) else (none)) else (none)) else (spec_l22Good.l0 k x1 (wrap64 (x5 + 1)) x783000 x783001 x783002)) else (some false))) else (none)) else ((spec_l2Good.f k x783000 x783001 x783002).bind fun t783 => (if t783 = true then (some (decide ((x1.length : Int) ≤ 12))) else (some false)))
def spec_l22Good.f (k : Nat) (a0_0 : Int) (a0_1 : Int) (l0_2 : List Int) (l1 : List (S35)) : Option (Bool) := spec_l22Good.l0 k l1 0 a0_0 a0_1 l0_2
def spec_l22Good.T4 : Bool × List (List Nat × List Nat) := (true, [([], []), ([], []), ([], []), ([1, 2], [1, 2]), ([3], [3]), ([0, 4], [0, 4]), ([5], [5]), ([6, 5], [6]), ([7], [7]), ([8, 7], [7, 8]), ([9, 7, 7], [7, 9]), ([10], [10]), ([10], [10]), ([12, 10], [10, 12]), ([11, 13, 10], [10, 11, 13]), ([14, 10], [10, 14]), ([10], [10]), ([10], [10]), ([16, 17, 10], [10, 16, 17]), ([18, 10], [10, 18]), ([15, 19, 10, 10], [10, 15, 19]), ([20, 10], [10, 20]), ([10, 21, 7], [7, 10, 21]), ([7, 22], [7, 22])])
def spec_l22Good.B4 : List Nat := [0, 0, 0, 6, 14, 31, 63, 127, 255, 511, 1023, 2047, 2047, 6143, 16383, 32767, 2047, 2047, 198655, 460799, 1048575, 2097151, 4194303, 8388607]
theorem spec_l22Good.tab4 : rtab .any (opsOf Try.f90 4) = spec_l22Good.T4 := by kernel_rfl
theorem spec_l22Good.bits4 : waitsOk spec_l22Good.T4.2 spec_l22Good.B4 = true := by kernel_rfl
set_option maxHeartbeats 8000000 in
set_option maxRecDepth 100000 in
theorem spec_l22Good.calls (k : Nat) (a0_0 : Int) (a0_1 : Int) (A0_2 : Option Addr) (c0_2 : Nat) (l0_2 : List Int) (A1 : Option Addr) (c1 : Nat) (l1 : List (S35)) (r : Bool) (w : World) (hr0_2 : Kd.C (Kd.int .i64) w A0_2 l0_2.length l0_2) (hc0_2 : l0_2.length ≤ c0_2) (hr1 : Kd.C k35 w A1 l1.length l1) (hc1 : l1.length ≤ c1) (h : spec_l22Good.f k a0_0 a0_1 l0_2 l1 = some r) :
  Calls Try.prog 90 #[.agg #[.int .i64 a0_0, .int .i64 a0_1, .slice A0_2 l0_2.length c0_2], .slice A1 l1.length c1] w fun e w' => e = .returned (.bool r) ∧ Below w.heap.size w w' := by
 have hu26 := Try.underlying26
 have hu35 := Try.underlying35
 have HR0_2 := Aside0.mk hr0_2
 have HC0_2 := Aside0.mk hc0_2
 clear hr0_2 hc0_2
 have HR1 := Aside0.mk hr1
 have HC1 := Aside0.mk hc1
 clear hr1 hc1
 have HB := Aside0.mk (Below.refl w.heap.size w)
 have H : (spec_l22Good.l0 k l1 0 a0_0 a0_1 l0_2) = some r := h
 clear h
 have H' := Aside0.mk H
 clear H
 go_enter Try.func90, Try.ntmps90
 go_wp2_with (first | ((with_reducible refine gate_dst (N := 2) rfl ?_); (try (refine gate_guard (by rfl) ?_; dsimp only)); refine box_event ?hg (N := 2) ?hd (cs := #[.int .i64 a0_0, .int .i64 a0_1, .slice A0_2 l0_2.length c0_2]) (t := 26) ?hr ?_; (case hd => rfl); (case hg => rfl); (case hr => first | (go_simp; done) | (go_simp; rfl)); intro gb782 hg w3 hbox hb; have n0_ := Aside0.mk (below_step (by repeat (first | (with_reducible first | exact HB.out | apply below_alloc | apply pw_below_drewN | apply below_drew1) | exact HB.out)) hb); have n1_ := Aside0.mk (hbox); have n2_ := Aside0.mk ((by rw [hg]; exact (below_size (by repeat (first | (with_reducible first | exact HB.out | apply below_alloc | apply pw_below_drewN | apply below_drew1) | exact HB.out))) : w.heap.size ≤ gb782)); have n3_ := Aside0.mk ((by rw [hg]; exact (below_size (by repeat (first | (with_reducible first | exact HB.out | apply below_alloc | apply pw_below_drewN | apply below_drew1) | exact HB.out))) : w.heap.size ≤ gb782)); clear HB; have HB := n0_; have BK782 := n1_; have GW782 := n2_; have GE782 := n3_; clear n0_ n1_ n2_ n3_; clear hb hbox hg))
 go_loopg [5] k (fun kq v5 w' => ∃ (x5_1 : Int), v5 = .int .i64 x5_1 ∧ Aside0 (spec_l22Good.l0 kq l1 x5_1 a0_0 a0_1 l0_2 = some r) ∧ Aside0 (kq ≤ k) ∧ Aside0 (w'.heap[gb782]? = some (.cells #[.int .i64 a0_0, .int .i64 a0_1, (.slice A0_2 l0_2.length c0_2)] 26 (0, 0))) ∧ Aside0 (Below w.heap.size w w'))
 case atStart => exact ⟨(0), (by first | rfl | (simp; done) | (simp [*]; done)), H', ⟨Nat.le_refl _⟩, ⟨by (with_reducible repeat (first | refine blk_drewN ?_ _ | refine blk_drew ?_ | refine blk_alloc ?_ _)); exact BK782.out⟩, ⟨by repeat (first | (with_reducible first | exact HB.out | apply below_alloc | apply pw_below_drewN | apply below_drew1 | refine below_set ?_ GE782.out) | exact HB.out)⟩⟩
 case round =>
  clear H'
  try clear c1
  try clear p2
  obtain ⟨x5_1, rfl, HA, HK1, BK782, HB⟩ := hrel
  cases gk with
  | zero => exact absurd HA.out (by simp [spec_l22Good.l0])
  | succ k1 =>
   have H := HA.out
   clear HA
   simp only [spec_l22Good.l0] at H
   by_cases c4 : x5_1 < (l1.length : Int)
   ·rw [if_pos c4] at H
    have c4b0 : decide (x5_1 < (l1.length : Int)) = true := decide_eq_true c4
    clear c4
    by_cases c5 : 0 ≤ x5_1
    ·rw [if_pos c5] at H
     have c5b0 : decide (0 ≤ x5_1) = true := decide_eq_true c5
     clear c5
     replace H := Option.bind_eq_some_iff.mp H
     obtain ⟨t785, A60, H⟩ := H
     have A6 := Aside0.mk A60
     clear A60
     by_cases c7 : t785 = true
     ·subst c7
      rw [if_pos rfl] at H
      by_cases c8 : x5_1 > 0
      ·rw [if_pos c8] at H
       have c8b0 : decide (0 < x5_1) = true := decide_eq_true c8
       clear c8
       obtain ⟨ji9, hji9⟩ : ∃ j_ : Int, (wrap64 (x5_1 - 1)) = j_ := ⟨_, rfl⟩
       replace H : (if 0 ≤ (ji9) then (if (ji9) < (l1.length : Int) then ((spec_l22Before.f ((rd_T35 l1 (ji9)).f0) ((rd_T35 l1 (ji9)).f1) ((rd_T35 l1 (ji9)).f2) ((rd_T35 l1 (ji9)).f3) ((rd_T35 l1 x5_1).f0) ((rd_T35 l1 x5_1).f1) ((rd_T35 l1 x5_1).f2) ((rd_T35 l1 x5_1).f3)).bind fun t788 => (if t788 = true then (spec_l22Good.l0 k1 l1 (wrap64 (x5_1 + 1)) a0_0 a0_1 l0_2) else (some false))) else (none)) else (none)) = some r := by first | (rw [hji9] at H; exact H) | (simp only [hji9] at H ⊢; exact H)
       (try rw [hji9] at A6)
       have hji9w : (IntKind.i64.wrap (x5_1 - 1)) = ji9 := (i64_w _).trans hji9
       by_cases c10 : 0 ≤ (ji9)
       ·rw [if_pos c10] at H
        have c10b0 : decide (0 ≤ (ji9)) = true := decide_eq_true c10
        clear c10
        by_cases c11 : (ji9) < (l1.length : Int)
        ·rw [if_pos c11] at H
         have c11b0 : decide ((ji9) < (l1.length : Int)) = true := decide_eq_true c11
         clear c11
         replace H := Option.bind_eq_some_iff.mp H
         obtain ⟨t788, A120, H⟩ := H
         have A12 := Aside0.mk A120
         clear A120
         by_cases c13 : t788 = true
         ·subst c13
          rw [if_pos rfl] at H
          have H' := Aside0.mk H
          clear H
          try go_wp2
          have n0_ := Aside0.mk (blk_drew BK782.out)
          have n1_ := Aside0.mk (below_drew1 HB.out)
          clear BK782
          clear HB
          have BK782 := n0_
          have HB := n1_
          clear n0_ n1_
          have p784 : 0 ≤ (x5_1 : Int) := of_decide_eq_true (by first | (with_reducible assumption) | assumption)
          have q784 : x5_1 < (l1.length : Int) := of_decide_eq_true (by first | (with_reducible assumption) | assumption)
          obtain ⟨ad784, e784, hx784_0, hx784_1, hx784_2, hx784_3⟩ := at_T35 HR1.out x5_1 p784 q784
          have hw784_3 := hx784_3
          have hw784_2 := hx784_2
          have hw784_1 := hx784_1
          have hw784_0 := hx784_0
          cases e784
          replace hx784_0 := (HB.out.cell (World.block_lt_of_cell? w _ hx784_0)).trans hx784_0
          replace hx784_1 := (HB.out.cell (World.block_lt_of_cell? w _ hx784_1)).trans hx784_1
          replace hx784_2 := (HB.out.cell (World.block_lt_of_cell? w _ hx784_2)).trans hx784_2
          replace hx784_3 := (HB.out.cell (World.block_lt_of_cell? w _ hx784_3)).trans hx784_3
          replace p784 := eq_true p784
          replace q784 := eq_true q784
          have p786 : 0 ≤ ((ji9) : Int) := of_decide_eq_true (by first | (with_reducible assumption) | assumption)
          have q786 : (ji9) < (l1.length : Int) := of_decide_eq_true (by first | (with_reducible assumption) | assumption)
          obtain ⟨ad786, e786, hx786_0, hx786_1, hx786_2, hx786_3⟩ := at_T35 HR1.out (ji9) p786 q786
          have hw786_3 := hx786_3
          have hw786_2 := hx786_2
          have hw786_1 := hx786_1
          have hw786_0 := hx786_0
          obtain rfl : ad784 = ad786 := (by injection e786)
          replace hx786_0 := (HB.out.cell (World.block_lt_of_cell? w _ hx786_0)).trans hx786_0
          replace hx786_1 := (HB.out.cell (World.block_lt_of_cell? w _ hx786_1)).trans hx786_1
          replace hx786_2 := (HB.out.cell (World.block_lt_of_cell? w _ hx786_2)).trans hx786_2
          replace hx786_3 := (HB.out.cell (World.block_lt_of_cell? w _ hx786_3)).trans hx786_3
          replace p786 := eq_true p786
          replace q786 := eq_true q786
          have p787 : 0 ≤ (x5_1 : Int) := of_decide_eq_true (by first | (with_reducible assumption) | assumption)
          have q787 : x5_1 < (l1.length : Int) := of_decide_eq_true (by first | (with_reducible assumption) | assumption)
          obtain ⟨ad787, e787, hx787_0, hx787_1, hx787_2, hx787_3⟩ := at_T35 HR1.out x5_1 p787 q787
          have hw787_3 := hx787_3
          have hw787_2 := hx787_2
          have hw787_1 := hx787_1
          have hw787_0 := hx787_0
          obtain rfl : ad784 = ad787 := (by injection e787)
          replace hx787_0 := (HB.out.cell (World.block_lt_of_cell? w _ hx787_0)).trans hx787_0
          replace hx787_1 := (HB.out.cell (World.block_lt_of_cell? w _ hx787_1)).trans hx787_1
          replace hx787_2 := (HB.out.cell (World.block_lt_of_cell? w _ hx787_2)).trans hx787_2
          replace hx787_3 := (HB.out.cell (World.block_lt_of_cell? w _ hx787_3)).trans hx787_3
          replace p787 := eq_true p787
          replace q787 := eq_true q787
          refine start_ (n := 24) (S := fun w' => w'.cell? ⟨gb782, 0, none⟩ = some (.int .i64 a0_0) ∧ w'.cell? ⟨gb782, 1, none⟩ = some (.int .i64 a0_1) ∧ w'.cell? ⟨gb782, 2, none⟩ = some (.slice A0_2 l0_2.length c0_2) ∧ w'.cell? (ad784.add ((x5_1).toNat * 4)) = some (.int .i64 ((rd_T35 l1 x5_1).f0)) ∧ w'.cell? ⟨(ad784.add ((x5_1).toNat * 4)).block, (ad784.add ((x5_1).toNat * 4)).off + 1, none⟩ = some (.int .i64 ((rd_T35 l1 x5_1).f1)) ∧ w'.cell? ⟨(ad784.add ((x5_1).toNat * 4)).block, (ad784.add ((x5_1).toNat * 4)).off + 2, none⟩ = some (.int .i64 ((rd_T35 l1 x5_1).f2)) ∧ w'.cell? ⟨(ad784.add ((x5_1).toNat * 4)).block, (ad784.add ((x5_1).toNat * 4)).off + 3, none⟩ = some (.int .i64 ((rd_T35 l1 x5_1).f3)) ∧ w'.cell? (ad784.add (((ji9)).toNat * 4)) = some (.int .i64 ((rd_T35 l1 (ji9)).f0)) ∧ w'.cell? ⟨(ad784.add (((ji9)).toNat * 4)).block, (ad784.add (((ji9)).toNat * 4)).off + 1, none⟩ = some (.int .i64 ((rd_T35 l1 (ji9)).f1)) ∧ w'.cell? ⟨(ad784.add (((ji9)).toNat * 4)).block, (ad784.add (((ji9)).toNat * 4)).off + 2, none⟩ = some (.int .i64 ((rd_T35 l1 (ji9)).f2)) ∧ w'.cell? ⟨(ad784.add (((ji9)).toNat * 4)).block, (ad784.add (((ji9)).toNat * 4)).off + 3, none⟩ = some (.int .i64 ((rd_T35 l1 (ji9)).f3)) ∧ w'.cell? (ad784.add ((x5_1).toNat * 4)) = some (.int .i64 ((rd_T35 l1 x5_1).f0)) ∧ w'.cell? ⟨(ad784.add ((x5_1).toNat * 4)).block, (ad784.add ((x5_1).toNat * 4)).off + 1, none⟩ = some (.int .i64 ((rd_T35 l1 x5_1).f1)) ∧ w'.cell? ⟨(ad784.add ((x5_1).toNat * 4)).block, (ad784.add ((x5_1).toNat * 4)).off + 2, none⟩ = some (.int .i64 ((rd_T35 l1 x5_1).f2)) ∧ w'.cell? ⟨(ad784.add ((x5_1).toNat * 4)).block, (ad784.add ((x5_1).toNat * 4)).off + 3, none⟩ = some (.int .i64 ((rd_T35 l1 x5_1).f3))) (ds := []) D0_90 (by kernel_rfl) rfl rfl ⟨(blk_cell BK782.out 0).trans rfl, (blk_cell BK782.out 1).trans rfl, (blk_cell BK782.out 2).trans rfl, ((HB.out.cell (World.block_lt_of_cell? w _ hw784_0)).trans hw784_0), ((HB.out.cell (World.block_lt_of_cell? w _ hw784_1)).trans hw784_1), ((HB.out.cell (World.block_lt_of_cell? w _ hw784_2)).trans hw784_2), ((HB.out.cell (World.block_lt_of_cell? w _ hw784_3)).trans hw784_3), ((HB.out.cell (World.block_lt_of_cell? w _ hw786_0)).trans hw786_0), ((HB.out.cell (World.block_lt_of_cell? w _ hw786_1)).trans hw786_1), ((HB.out.cell (World.block_lt_of_cell? w _ hw786_2)).trans hw786_2), ((HB.out.cell (World.block_lt_of_cell? w _ hw786_3)).trans hw786_3), ((HB.out.cell (World.block_lt_of_cell? w _ hw787_0)).trans hw787_0), ((HB.out.cell (World.block_lt_of_cell? w _ hw787_1)).trans hw787_1), ((HB.out.cell (World.block_lt_of_cell? w _ hw787_2)).trans hw787_2), ((HB.out.cell (World.block_lt_of_cell? w _ hw787_3)).trans hw787_3)⟩ (fun hHeld => ?_); refine with_tabW spec_l22Good.tab4 spec_l22Good.bits4 (fun HT_ HW_ => ?_)
          generalize wr.drew = w14 at BK782 HB hx784_0 hx784_1 hx784_2 hx784_3 hx786_0 hx786_1 hx786_2 hx786_3 hx787_0 hx787_1 hx787_2 hx787_3 hHeld ⊢
          refine pure_ (i := 1) (N := some 13) (v := ?_) (a' := ?_) D1_90 rfl rfl (any_of HT_.out (by kernel_rfl)) (fun _ _ _ h => h) (Or.inl ⟨by rfl, ?_⟩) ?_ ?_
          rotate_left
          ·intro w'
           go_simp
           with_reducible rfl
          rotate_left
          ·simp only [Act.put, sS_, sZ_, sC_, i64_w, i32_w]
           rfl
          refine pure_ (i := 2) (N := some 14) (v := ?_) (a' := ?_) D2_90 rfl rfl (any_of HT_.out (by kernel_rfl)) (fun _ _ _ h => h) (Or.inl ⟨by rfl, ?_⟩) ?_ ?_
          rotate_left
          ·intro w'
           go_simp
           with_reducible rfl
          rotate_left
          ·simp only [Act.put, sS_, sZ_, sC_, i64_w, i32_w]
           rfl
          refine pure_ (i := 3) (N := some 15) (v := ?_) (a' := ?_) D3_90 rfl rfl (any_of HT_.out (by kernel_rfl)) (fun _ _ _ h => h) (Or.inl ⟨by rfl, ?_⟩) ?_ ?_
          rotate_left
          ·intro w'
           go_simp
           with_reducible rfl
          rotate_left
          ·simp only [Act.put, sS_, sZ_, sC_, i64_w, i32_w]
           rfl
          refine take_ (i := 0) (N := some 12) (v := ?_) (a' := ?_) D4_90 rfl rfl (take_ofW HT_.out HW_.out (by kernel_rfl)) (fun _ _ _ h => h) (Or.inl ⟨by rfl, ?_⟩) hHeld ?_ ?_
          rotate_left
          ·rintro w' ⟨s0, s1, s2, s3, s4, s5, s6, s7, s8, s9, s10, s11, s12, s13, s14⟩
           go_simp
           with_reducible rfl
          rotate_left
          ·simp only [Act.put, sS_, sZ_, sC_, i64_w, i32_w]
           rfl
          refine take_ (i := 4) (N := some 16) (v := ?_) (a' := ?_) D5_90 rfl rfl (take_ofW HT_.out HW_.out (by kernel_rfl)) (fun _ _ _ h => h) (Or.inl ⟨by rfl, ?_⟩) hHeld ?_ ?_
          rotate_left
          ·rintro w' ⟨s0, s1, s2, s3, s4, s5, s6, s7, s8, s9, s10, s11, s12, s13, s14⟩
           go_simp
           with_reducible rfl
          rotate_left
          ·simp only [Act.put, sS_, sZ_, sC_, i64_w, i32_w]
           rfl
          refine one_ (i := 5) (N := some 17) D6_90 rfl rfl (one_of HT_.out (by kernel_rfl)) (by decide) (fun K hK => ?_)
          refine goes_ Try.func106 (by kernel_rfl) rfl #[.agg #[.int .i64 a0_0, .int .i64 a0_1, .slice A0_2 l0_2.length c0_2], .agg #[.int .i64 ((rd_T35 l1 x5_1).f0), .int .i64 ((rd_T35 l1 x5_1).f1), .int .i64 ((rd_T35 l1 x5_1).f2), .int .i64 ((rd_T35 l1 x5_1).f3)]] (by rfl) rfl rfl (by (try simp only [List.map_toArray, List.map_cons, List.map_nil]); first | done | rfl | (simp only [List.length_drop, List.length_take]; rfl)) ?_
          with_reducible refine (spec_l22One.calls k1 a0_0 a0_1 _ _ l0_2 ((rd_T35 l1 x5_1).f0) ((rd_T35 l1 x5_1).f1) ((rd_T35 l1 x5_1).f2) ((rd_T35 l1 x5_1).f3) true _ ?side1 ?side2 A6.out).mono ?_
          (case side1 => repeat (first | exact (Kd.C_below HR0_2.out HB.out) | (with_reducible refine Kd.C_alloc ?_ _) | (with_reducible refine Kd.C_drewN ?_ _) | (with_reducible refine Kd.C_drew ?_)))
          (case side2 => exact HC0_2.out)
          rintro e w15 ⟨rfl, hb⟩
          refine ⟨_, rfl, ?_⟩
          have n0_ := Aside0.mk (blk_below (g := gb782) (o := .cells #[.int .i64 a0_0, .int .i64 a0_1, .slice A0_2 l0_2.length c0_2] 26 (0, 0)) (by (with_reducible repeat (first | refine blk_drewN ?_ _ | refine blk_drew ?_ | refine blk_alloc ?_ _)); exact BK782.out) hb)
          have n1_ := Aside0.mk (below_step (by repeat (first | (with_reducible first | exact HB.out | apply below_alloc | apply pw_below_drewN | apply below_drew1 | refine below_set ?_ GE782.out) | exact HB.out)) hb)
          clear BK782
          clear HB
          have BK782 := n0_
          have HB := n1_
          clear n0_ n1_
          (try clear hb)
          (try clear hb2)
          (try clear hk)
          (try clear hi)
          refine hK.out _ _ ⟨(blk_cell BK782.out 0).trans rfl, (blk_cell BK782.out 1).trans rfl, (blk_cell BK782.out 2).trans rfl, ((HB.out.cell (World.block_lt_of_cell? w _ hw784_0)).trans hw784_0), ((HB.out.cell (World.block_lt_of_cell? w _ hw784_1)).trans hw784_1), ((HB.out.cell (World.block_lt_of_cell? w _ hw784_2)).trans hw784_2), ((HB.out.cell (World.block_lt_of_cell? w _ hw784_3)).trans hw784_3), ((HB.out.cell (World.block_lt_of_cell? w _ hw786_0)).trans hw786_0), ((HB.out.cell (World.block_lt_of_cell? w _ hw786_1)).trans hw786_1), ((HB.out.cell (World.block_lt_of_cell? w _ hw786_2)).trans hw786_2), ((HB.out.cell (World.block_lt_of_cell? w _ hw786_3)).trans hw786_3), ((HB.out.cell (World.block_lt_of_cell? w _ hw787_0)).trans hw787_0), ((HB.out.cell (World.block_lt_of_cell? w _ hw787_1)).trans hw787_1), ((HB.out.cell (World.block_lt_of_cell? w _ hw787_2)).trans hw787_2), ((HB.out.cell (World.block_lt_of_cell? w _ hw787_3)).trans hw787_3)⟩ (fun hHeld => ?_)
          clear hK K
          refine norm_ (a' := ?_) ?_ ?_
          rotate_left
          ·show Act.put _ (some 17) _ = _
           simp only [Act.put, sS_, sZ_, sC_, i64_w, i32_w]
           rfl
          refine pure_ (i := 6) (N := some 18) (v := ?_) (a' := ?_) D7_90 rfl rfl (any_of HT_.out (by kernel_rfl)) (fun _ _ _ h => h) (Or.inl ⟨by rfl, ?_⟩) ?_ ?_
          rotate_left
          ·intro w'
           go_simp
           with_reducible rfl
          rotate_left
          ·simp only [Act.put, sS_, sZ_, sC_, i64_w, i32_w]
           rfl
          refine pure_ (i := 7) (N := some 19) (v := ?_) (a' := ?_) D8_90 rfl rfl (any_of HT_.out (by kernel_rfl)) (fun _ _ _ h => h) (Or.inl ⟨by rfl, ?_⟩) ?_ ?_
          rotate_left
          ·intro w'
           go_simp
           with_reducible rfl
          rotate_left
          ·simp only [Act.put, sS_, sZ_, sC_, i64_w, i32_w]
           rfl
          refine pure_ (i := 8) (N := some 20) (v := ?_) (a' := ?_) D9_90 rfl rfl (any_of HT_.out (by kernel_rfl)) (fun _ _ _ h => h) (Or.inl ⟨by rfl, ?_⟩) ?_ ?_
          rotate_left
          ·intro w'
           go_simp
           with_reducible rfl
          rotate_left
          ·simp only [Act.put, sS_, sZ_, sC_, i64_w, i32_w]
           rfl
          refine pure_ (i := 9) (N := some 21) (v := ?_) (a' := ?_) D10_90 rfl rfl (any_of HT_.out (by kernel_rfl)) (fun _ _ _ h => h) (Or.inl ⟨by rfl, ?_⟩) ?_ ?_
          rotate_left
          ·intro w'
           go_simp
           with_reducible rfl
          rotate_left
          ·simp only [Act.put, sS_, sZ_, sC_, i64_w, i32_w]
           rfl
          refine pure_ (i := 10) (N := some 22) (v := ?_) (a' := ?_) D11_90 rfl rfl (any_of HT_.out (by kernel_rfl)) (fun _ _ _ h => h) (Or.inl ⟨by rfl, ?_⟩) ?_ ?_
          rotate_left
          ·intro w'
           go_simp
           with_reducible rfl
          rotate_left
          ·simp only [Act.put, sS_, sZ_, sC_, i64_w, i32_w]
           rfl
          refine pure_ (i := 11) (N := some 23) (v := ?_) (a' := ?_) D12_90 rfl rfl (any_of HT_.out (by kernel_rfl)) (fun _ _ _ h => h) (Or.inl ⟨by rfl, ?_⟩) ?_ ?_
          rotate_left
          ·intro w'
           go_simp
           with_reducible rfl
          rotate_left
          ·simp only [Act.put, sS_, sZ_, sC_, i64_w, i32_w]
           rfl
          refine pure_ (i := 12) (N := some 24) (v := ?_) (a' := ?_) D13_90 rfl rfl (any_of HT_.out (by kernel_rfl)) (fun _ _ _ h => h) (Or.inl ⟨by rfl, ?_⟩) ?_ ?_
          rotate_left
          ·intro w'
           go_simp
           with_reducible rfl
          rotate_left
          ·simp only [Act.put, sS_, sZ_, sC_, i64_w, i32_w]
           rfl
          refine pure_ (i := 13) (N := some 25) (v := ?_) (a' := ?_) D14_90 rfl rfl (any_of HT_.out (by kernel_rfl)) (fun _ _ _ h => h) (Or.inl ⟨by rfl, ?_⟩) ?_ ?_
          rotate_left
          ·intro w'
           go_simp
           with_reducible rfl
          rotate_left
          ·simp only [Act.put, sS_, sZ_, sC_, i64_w, i32_w]
           rfl
          refine pure_ (i := 14) (N := some 26) (v := ?_) (a' := ?_) D15_90 rfl rfl (any_of HT_.out (by kernel_rfl)) (fun _ _ _ h => h) (Or.inl ⟨by rfl, ?_⟩) ?_ ?_
          rotate_left
          ·intro w'
           go_simp
           with_reducible rfl
          rotate_left
          ·simp only [Act.put, sS_, sZ_, sC_, i64_w, i32_w]
           rfl
          refine pure_ (i := 16) (N := some 28) (v := ?_) (a' := ?_) D16_90 rfl rfl (any_of HT_.out (by kernel_rfl)) (fun _ _ _ h => h) (Or.inl ⟨by rfl, ?_⟩) ?_ ?_
          rotate_left
          ·intro w'
           go_simp
           with_reducible rfl
          rotate_left
          ·simp only [Act.put, sS_, sZ_, sC_, i64_w, i32_w]
           rfl
          refine pure_ (i := 17) (N := some 29) (v := ?_) (a' := ?_) D17_90 rfl rfl (any_of HT_.out (by kernel_rfl)) (fun _ _ _ h => h) (Or.inl ⟨by rfl, ?_⟩) ?_ ?_
          rotate_left
          ·intro w'
           go_simp
           with_reducible rfl
          rotate_left
          ·simp only [Act.put, sS_, sZ_, sC_, i64_w, i32_w]
           rfl
          refine pure_ (i := 18) (N := some 30) (v := ?_) (a' := ?_) D18_90 rfl rfl (any_of HT_.out (by kernel_rfl)) (fun _ _ _ h => h) (Or.inl ⟨by rfl, ?_⟩) ?_ ?_
          rotate_left
          ·intro w'
           go_simp
           with_reducible rfl
          rotate_left
          ·simp only [Act.put, sS_, sZ_, sC_, i64_w, i32_w]
           rfl
          refine take_ (i := 15) (N := some 27) (v := ?_) (a' := ?_) D19_90 rfl rfl (take_ofW HT_.out HW_.out (by kernel_rfl)) (fun _ _ _ h => h) (Or.inl ⟨by rfl, ?_⟩) hHeld ?_ ?_
          rotate_left
          ·rintro w' ⟨s0, s1, s2, s3, s4, s5, s6, s7, s8, s9, s10, s11, s12, s13, s14⟩
           go_simp
           with_reducible rfl
          rotate_left
          ·simp only [Act.put, sS_, sZ_, sC_, i64_w, i32_w]
           rfl
          refine take_ (i := 19) (N := some 31) (v := ?_) (a' := ?_) D20_90 rfl rfl (take_ofW HT_.out HW_.out (by kernel_rfl)) (fun _ _ _ h => h) (Or.inl ⟨by rfl, ?_⟩) hHeld ?_ ?_
          rotate_left
          ·rintro w' ⟨s0, s1, s2, s3, s4, s5, s6, s7, s8, s9, s10, s11, s12, s13, s14⟩
           go_simp
           with_reducible rfl
          rotate_left
          ·simp only [Act.put, sS_, sZ_, sC_, i64_w, i32_w]
           rfl
          refine one_ (i := 20) (N := some 32) D21_90 rfl rfl (one_of HT_.out (by kernel_rfl)) (by decide) (fun K hK => ?_)
          refine goes_ Try.func103 (by kernel_rfl) rfl #[.agg #[.int .i64 ((rd_T35 l1 (ji9)).f0), .int .i64 ((rd_T35 l1 (ji9)).f1), .int .i64 ((rd_T35 l1 (ji9)).f2), .int .i64 ((rd_T35 l1 (ji9)).f3)], .agg #[.int .i64 ((rd_T35 l1 x5_1).f0), .int .i64 ((rd_T35 l1 x5_1).f1), .int .i64 ((rd_T35 l1 x5_1).f2), .int .i64 ((rd_T35 l1 x5_1).f3)]] (by rfl) rfl rfl (by (try simp only [List.map_toArray, List.map_cons, List.map_nil]); first | done | (simp only [hji9]; rfl) | rfl | (simp only [List.length_drop, List.length_take]; rfl)) ?_
          with_reducible refine (spec_l22Before.calls ((rd_T35 l1 (ji9)).f0) ((rd_T35 l1 (ji9)).f1) ((rd_T35 l1 (ji9)).f2) ((rd_T35 l1 (ji9)).f3) ((rd_T35 l1 x5_1).f0) ((rd_T35 l1 x5_1).f1) ((rd_T35 l1 x5_1).f2) ((rd_T35 l1 x5_1).f3) true _ A12.out).mono ?_
          rintro e w16 ⟨rfl, hb⟩
          refine ⟨_, rfl, ?_⟩
          have n0_ := Aside0.mk (blk_below (g := gb782) (o := .cells #[.int .i64 a0_0, .int .i64 a0_1, .slice A0_2 l0_2.length c0_2] 26 (0, 0)) (by (with_reducible repeat (first | refine blk_drewN ?_ _ | refine blk_drew ?_ | refine blk_alloc ?_ _)); exact BK782.out) hb)
          have n1_ := Aside0.mk (below_step (by repeat (first | (with_reducible first | exact HB.out | apply below_alloc | apply pw_below_drewN | apply below_drew1 | refine below_set ?_ GE782.out) | exact HB.out)) hb)
          clear BK782
          clear HB
          have BK782 := n0_
          have HB := n1_
          clear n0_ n1_
          (try clear hb)
          (try clear hb2)
          (try clear hk)
          (try clear hi)
          refine hK.out _ _ ⟨(blk_cell BK782.out 0).trans rfl, (blk_cell BK782.out 1).trans rfl, (blk_cell BK782.out 2).trans rfl, ((HB.out.cell (World.block_lt_of_cell? w _ hw784_0)).trans hw784_0), ((HB.out.cell (World.block_lt_of_cell? w _ hw784_1)).trans hw784_1), ((HB.out.cell (World.block_lt_of_cell? w _ hw784_2)).trans hw784_2), ((HB.out.cell (World.block_lt_of_cell? w _ hw784_3)).trans hw784_3), ((HB.out.cell (World.block_lt_of_cell? w _ hw786_0)).trans hw786_0), ((HB.out.cell (World.block_lt_of_cell? w _ hw786_1)).trans hw786_1), ((HB.out.cell (World.block_lt_of_cell? w _ hw786_2)).trans hw786_2), ((HB.out.cell (World.block_lt_of_cell? w _ hw786_3)).trans hw786_3), ((HB.out.cell (World.block_lt_of_cell? w _ hw787_0)).trans hw787_0), ((HB.out.cell (World.block_lt_of_cell? w _ hw787_1)).trans hw787_1), ((HB.out.cell (World.block_lt_of_cell? w _ hw787_2)).trans hw787_2), ((HB.out.cell (World.block_lt_of_cell? w _ hw787_3)).trans hw787_3)⟩ (fun hHeld => ?_)
          clear hK K
          refine norm_ (a' := ?_) ?_ ?_
          rotate_left
          ·show Act.put _ (some 32) _ = _
           simp only [Act.put, sS_, sZ_, sC_, i64_w, i32_w]
           rfl
          refine pure_ (i := 21) (N := some 33) (v := ?_) (a' := ?_) D22_90 rfl rfl (any_of HT_.out (by kernel_rfl)) (fun _ _ _ h => h) (Or.inl ⟨by rfl, ?_⟩) ?_ ?_
          rotate_left
          ·intro w'
           go_simp
           with_reducible rfl
          rotate_left
          ·simp only [Act.put, sS_, sZ_, sC_, i64_w, i32_w]
           rfl
          refine pure_ (i := 22) (N := some 34) (v := ?_) (a' := ?_) D23_90 rfl rfl (any_of HT_.out (by kernel_rfl)) (fun _ _ _ h => h) (Or.inl ⟨by rfl, ?_⟩) ?_ ?_
          rotate_left
          ·intro w'
           go_simp
           with_reducible rfl
          rotate_left
          ·simp only [Act.put, sS_, sZ_, sC_, i64_w, i32_w]
           rfl
          refine pure_ (i := 23) (N := some 35) (v := ?_) (a' := ?_) D24_90 rfl rfl (any_of HT_.out (by kernel_rfl)) (fun _ _ _ h => h) (Or.inl ⟨by rfl, ?_⟩) ?_ ?_
          rotate_left
          ·intro w'
           go_simp
           with_reducible rfl
          rotate_left
          ·simp only [Act.put, sS_, sZ_, sC_, i64_w, i32_w]
           rfl
          refine done_ (done_of HT_.out (by kernel_rfl)) ?_
          try go_wp2
          go_roundg k1
          case measure => have := HK1.out; omega
          case rel => exact ⟨(wrap64 (x5_1 + 1)), (by first | rfl | (simp; done) | (simp [*]; done)), H', ⟨by have := HK1.out; omega⟩, ⟨by (with_reducible repeat (first | refine blk_drewN ?_ _ | refine blk_drew ?_ | refine blk_alloc ?_ _)); exact BK782.out⟩, ⟨by repeat (first | (with_reducible first | exact HB.out | apply below_alloc | apply pw_below_drewN | apply below_drew1 | refine below_set ?_ GE782.out) | exact HB.out)⟩⟩
         ·replace c13 := Bool.eq_false_iff.mpr c13
          subst c13
          rw [if_neg (show ¬ (false = true) by decide)] at H
          obtain rfl := Option.some.inj H
          try go_wp2
          have n0_ := Aside0.mk (blk_drew BK782.out)
          have n1_ := Aside0.mk (below_drew1 HB.out)
          clear BK782
          clear HB
          have BK782 := n0_
          have HB := n1_
          clear n0_ n1_
          have p784 : 0 ≤ (x5_1 : Int) := of_decide_eq_true (by first | (with_reducible assumption) | assumption)
          have q784 : x5_1 < (l1.length : Int) := of_decide_eq_true (by first | (with_reducible assumption) | assumption)
          obtain ⟨ad784, e784, hx784_0, hx784_1, hx784_2, hx784_3⟩ := at_T35 HR1.out x5_1 p784 q784
          have hw784_3 := hx784_3
          have hw784_2 := hx784_2
          have hw784_1 := hx784_1
          have hw784_0 := hx784_0
          cases e784
          replace hx784_0 := (HB.out.cell (World.block_lt_of_cell? w _ hx784_0)).trans hx784_0
          replace hx784_1 := (HB.out.cell (World.block_lt_of_cell? w _ hx784_1)).trans hx784_1
          replace hx784_2 := (HB.out.cell (World.block_lt_of_cell? w _ hx784_2)).trans hx784_2
          replace hx784_3 := (HB.out.cell (World.block_lt_of_cell? w _ hx784_3)).trans hx784_3
          replace p784 := eq_true p784
          replace q784 := eq_true q784
          have p786 : 0 ≤ ((ji9) : Int) := of_decide_eq_true (by first | (with_reducible assumption) | assumption)
          have q786 : (ji9) < (l1.length : Int) := of_decide_eq_true (by first | (with_reducible assumption) | assumption)
          obtain ⟨ad786, e786, hx786_0, hx786_1, hx786_2, hx786_3⟩ := at_T35 HR1.out (ji9) p786 q786
          have hw786_3 := hx786_3
          have hw786_2 := hx786_2
          have hw786_1 := hx786_1
          have hw786_0 := hx786_0
          obtain rfl : ad784 = ad786 := (by injection e786)
          replace hx786_0 := (HB.out.cell (World.block_lt_of_cell? w _ hx786_0)).trans hx786_0
          replace hx786_1 := (HB.out.cell (World.block_lt_of_cell? w _ hx786_1)).trans hx786_1
          replace hx786_2 := (HB.out.cell (World.block_lt_of_cell? w _ hx786_2)).trans hx786_2
          replace hx786_3 := (HB.out.cell (World.block_lt_of_cell? w _ hx786_3)).trans hx786_3
          replace p786 := eq_true p786
          replace q786 := eq_true q786
          have p787 : 0 ≤ (x5_1 : Int) := of_decide_eq_true (by first | (with_reducible assumption) | assumption)
          have q787 : x5_1 < (l1.length : Int) := of_decide_eq_true (by first | (with_reducible assumption) | assumption)
          obtain ⟨ad787, e787, hx787_0, hx787_1, hx787_2, hx787_3⟩ := at_T35 HR1.out x5_1 p787 q787
          have hw787_3 := hx787_3
          have hw787_2 := hx787_2
          have hw787_1 := hx787_1
          have hw787_0 := hx787_0
          obtain rfl : ad784 = ad787 := (by injection e787)
          replace hx787_0 := (HB.out.cell (World.block_lt_of_cell? w _ hx787_0)).trans hx787_0
          replace hx787_1 := (HB.out.cell (World.block_lt_of_cell? w _ hx787_1)).trans hx787_1
          replace hx787_2 := (HB.out.cell (World.block_lt_of_cell? w _ hx787_2)).trans hx787_2
          replace hx787_3 := (HB.out.cell (World.block_lt_of_cell? w _ hx787_3)).trans hx787_3
          replace p787 := eq_true p787
          replace q787 := eq_true q787
          refine start_ (n := 24) (S := fun w' => w'.cell? ⟨gb782, 0, none⟩ = some (.int .i64 a0_0) ∧ w'.cell? ⟨gb782, 1, none⟩ = some (.int .i64 a0_1) ∧ w'.cell? ⟨gb782, 2, none⟩ = some (.slice A0_2 l0_2.length c0_2) ∧ w'.cell? (ad784.add ((x5_1).toNat * 4)) = some (.int .i64 ((rd_T35 l1 x5_1).f0)) ∧ w'.cell? ⟨(ad784.add ((x5_1).toNat * 4)).block, (ad784.add ((x5_1).toNat * 4)).off + 1, none⟩ = some (.int .i64 ((rd_T35 l1 x5_1).f1)) ∧ w'.cell? ⟨(ad784.add ((x5_1).toNat * 4)).block, (ad784.add ((x5_1).toNat * 4)).off + 2, none⟩ = some (.int .i64 ((rd_T35 l1 x5_1).f2)) ∧ w'.cell? ⟨(ad784.add ((x5_1).toNat * 4)).block, (ad784.add ((x5_1).toNat * 4)).off + 3, none⟩ = some (.int .i64 ((rd_T35 l1 x5_1).f3)) ∧ w'.cell? (ad784.add (((ji9)).toNat * 4)) = some (.int .i64 ((rd_T35 l1 (ji9)).f0)) ∧ w'.cell? ⟨(ad784.add (((ji9)).toNat * 4)).block, (ad784.add (((ji9)).toNat * 4)).off + 1, none⟩ = some (.int .i64 ((rd_T35 l1 (ji9)).f1)) ∧ w'.cell? ⟨(ad784.add (((ji9)).toNat * 4)).block, (ad784.add (((ji9)).toNat * 4)).off + 2, none⟩ = some (.int .i64 ((rd_T35 l1 (ji9)).f2)) ∧ w'.cell? ⟨(ad784.add (((ji9)).toNat * 4)).block, (ad784.add (((ji9)).toNat * 4)).off + 3, none⟩ = some (.int .i64 ((rd_T35 l1 (ji9)).f3)) ∧ w'.cell? (ad784.add ((x5_1).toNat * 4)) = some (.int .i64 ((rd_T35 l1 x5_1).f0)) ∧ w'.cell? ⟨(ad784.add ((x5_1).toNat * 4)).block, (ad784.add ((x5_1).toNat * 4)).off + 1, none⟩ = some (.int .i64 ((rd_T35 l1 x5_1).f1)) ∧ w'.cell? ⟨(ad784.add ((x5_1).toNat * 4)).block, (ad784.add ((x5_1).toNat * 4)).off + 2, none⟩ = some (.int .i64 ((rd_T35 l1 x5_1).f2)) ∧ w'.cell? ⟨(ad784.add ((x5_1).toNat * 4)).block, (ad784.add ((x5_1).toNat * 4)).off + 3, none⟩ = some (.int .i64 ((rd_T35 l1 x5_1).f3))) (ds := []) D0_90 (by kernel_rfl) rfl rfl ⟨(blk_cell BK782.out 0).trans rfl, (blk_cell BK782.out 1).trans rfl, (blk_cell BK782.out 2).trans rfl, ((HB.out.cell (World.block_lt_of_cell? w _ hw784_0)).trans hw784_0), ((HB.out.cell (World.block_lt_of_cell? w _ hw784_1)).trans hw784_1), ((HB.out.cell (World.block_lt_of_cell? w _ hw784_2)).trans hw784_2), ((HB.out.cell (World.block_lt_of_cell? w _ hw784_3)).trans hw784_3), ((HB.out.cell (World.block_lt_of_cell? w _ hw786_0)).trans hw786_0), ((HB.out.cell (World.block_lt_of_cell? w _ hw786_1)).trans hw786_1), ((HB.out.cell (World.block_lt_of_cell? w _ hw786_2)).trans hw786_2), ((HB.out.cell (World.block_lt_of_cell? w _ hw786_3)).trans hw786_3), ((HB.out.cell (World.block_lt_of_cell? w _ hw787_0)).trans hw787_0), ((HB.out.cell (World.block_lt_of_cell? w _ hw787_1)).trans hw787_1), ((HB.out.cell (World.block_lt_of_cell? w _ hw787_2)).trans hw787_2), ((HB.out.cell (World.block_lt_of_cell? w _ hw787_3)).trans hw787_3)⟩ (fun hHeld => ?_); refine with_tabW spec_l22Good.tab4 spec_l22Good.bits4 (fun HT_ HW_ => ?_)
          generalize wr.drew = w17 at BK782 HB hx784_0 hx784_1 hx784_2 hx784_3 hx786_0 hx786_1 hx786_2 hx786_3 hx787_0 hx787_1 hx787_2 hx787_3 hHeld ⊢
          refine pure_ (i := 1) (N := some 13) (v := ?_) (a' := ?_) D1_90 rfl rfl (any_of HT_.out (by kernel_rfl)) (fun _ _ _ h => h) (Or.inl ⟨by rfl, ?_⟩) ?_ ?_
          rotate_left
          ·intro w'
           go_simp
           with_reducible rfl
          rotate_left
          ·simp only [Act.put, sS_, sZ_, sC_, i64_w, i32_w]
           rfl
          refine pure_ (i := 2) (N := some 14) (v := ?_) (a' := ?_) D2_90 rfl rfl (any_of HT_.out (by kernel_rfl)) (fun _ _ _ h => h) (Or.inl ⟨by rfl, ?_⟩) ?_ ?_
          rotate_left
          ·intro w'
           go_simp
           with_reducible rfl
          rotate_left
          ·simp only [Act.put, sS_, sZ_, sC_, i64_w, i32_w]
           rfl
          refine pure_ (i := 3) (N := some 15) (v := ?_) (a' := ?_) D3_90 rfl rfl (any_of HT_.out (by kernel_rfl)) (fun _ _ _ h => h) (Or.inl ⟨by rfl, ?_⟩) ?_ ?_
          rotate_left
          ·intro w'
           go_simp
           with_reducible rfl
          rotate_left
          ·simp only [Act.put, sS_, sZ_, sC_, i64_w, i32_w]
           rfl
          refine take_ (i := 0) (N := some 12) (v := ?_) (a' := ?_) D4_90 rfl rfl (take_ofW HT_.out HW_.out (by kernel_rfl)) (fun _ _ _ h => h) (Or.inl ⟨by rfl, ?_⟩) hHeld ?_ ?_
          rotate_left
          ·rintro w' ⟨s0, s1, s2, s3, s4, s5, s6, s7, s8, s9, s10, s11, s12, s13, s14⟩
           go_simp
           with_reducible rfl
          rotate_left
          ·simp only [Act.put, sS_, sZ_, sC_, i64_w, i32_w]
           rfl
          refine take_ (i := 4) (N := some 16) (v := ?_) (a' := ?_) D5_90 rfl rfl (take_ofW HT_.out HW_.out (by kernel_rfl)) (fun _ _ _ h => h) (Or.inl ⟨by rfl, ?_⟩) hHeld ?_ ?_
          rotate_left
          ·rintro w' ⟨s0, s1, s2, s3, s4, s5, s6, s7, s8, s9, s10, s11, s12, s13, s14⟩
           go_simp
           with_reducible rfl
          rotate_left
          ·simp only [Act.put, sS_, sZ_, sC_, i64_w, i32_w]
           rfl
          refine one_ (i := 5) (N := some 17) D6_90 rfl rfl (one_of HT_.out (by kernel_rfl)) (by decide) (fun K hK => ?_)
          refine goes_ Try.func106 (by kernel_rfl) rfl #[.agg #[.int .i64 a0_0, .int .i64 a0_1, .slice A0_2 l0_2.length c0_2], .agg #[.int .i64 ((rd_T35 l1 x5_1).f0), .int .i64 ((rd_T35 l1 x5_1).f1), .int .i64 ((rd_T35 l1 x5_1).f2), .int .i64 ((rd_T35 l1 x5_1).f3)]] (by rfl) rfl rfl (by (try simp only [List.map_toArray, List.map_cons, List.map_nil]); first | done | rfl | (simp only [List.length_drop, List.length_take]; rfl)) ?_
          with_reducible refine (spec_l22One.calls k1 a0_0 a0_1 _ _ l0_2 ((rd_T35 l1 x5_1).f0) ((rd_T35 l1 x5_1).f1) ((rd_T35 l1 x5_1).f2) ((rd_T35 l1 x5_1).f3) true _ ?side1 ?side2 A6.out).mono ?_
          (case side1 => repeat (first | exact (Kd.C_below HR0_2.out HB.out) | (with_reducible refine Kd.C_alloc ?_ _) | (with_reducible refine Kd.C_drewN ?_ _) | (with_reducible refine Kd.C_drew ?_)))
          (case side2 => exact HC0_2.out)
          rintro e w18 ⟨rfl, hb⟩
          refine ⟨_, rfl, ?_⟩
          have n0_ := Aside0.mk (blk_below (g := gb782) (o := .cells #[.int .i64 a0_0, .int .i64 a0_1, .slice A0_2 l0_2.length c0_2] 26 (0, 0)) (by (with_reducible repeat (first | refine blk_drewN ?_ _ | refine blk_drew ?_ | refine blk_alloc ?_ _)); exact BK782.out) hb)
          have n1_ := Aside0.mk (below_step (by repeat (first | (with_reducible first | exact HB.out | apply below_alloc | apply pw_below_drewN | apply below_drew1 | refine below_set ?_ GE782.out) | exact HB.out)) hb)
          clear BK782
          clear HB
          have BK782 := n0_
          have HB := n1_
          clear n0_ n1_
          (try clear hb)
          (try clear hb2)
          (try clear hk)
          (try clear hi)
          refine hK.out _ _ ⟨(blk_cell BK782.out 0).trans rfl, (blk_cell BK782.out 1).trans rfl, (blk_cell BK782.out 2).trans rfl, ((HB.out.cell (World.block_lt_of_cell? w _ hw784_0)).trans hw784_0), ((HB.out.cell (World.block_lt_of_cell? w _ hw784_1)).trans hw784_1), ((HB.out.cell (World.block_lt_of_cell? w _ hw784_2)).trans hw784_2), ((HB.out.cell (World.block_lt_of_cell? w _ hw784_3)).trans hw784_3), ((HB.out.cell (World.block_lt_of_cell? w _ hw786_0)).trans hw786_0), ((HB.out.cell (World.block_lt_of_cell? w _ hw786_1)).trans hw786_1), ((HB.out.cell (World.block_lt_of_cell? w _ hw786_2)).trans hw786_2), ((HB.out.cell (World.block_lt_of_cell? w _ hw786_3)).trans hw786_3), ((HB.out.cell (World.block_lt_of_cell? w _ hw787_0)).trans hw787_0), ((HB.out.cell (World.block_lt_of_cell? w _ hw787_1)).trans hw787_1), ((HB.out.cell (World.block_lt_of_cell? w _ hw787_2)).trans hw787_2), ((HB.out.cell (World.block_lt_of_cell? w _ hw787_3)).trans hw787_3)⟩ (fun hHeld => ?_)
          clear hK K
          refine norm_ (a' := ?_) ?_ ?_
          rotate_left
          ·show Act.put _ (some 17) _ = _
           simp only [Act.put, sS_, sZ_, sC_, i64_w, i32_w]
           rfl
          refine pure_ (i := 6) (N := some 18) (v := ?_) (a' := ?_) D7_90 rfl rfl (any_of HT_.out (by kernel_rfl)) (fun _ _ _ h => h) (Or.inl ⟨by rfl, ?_⟩) ?_ ?_
          rotate_left
          ·intro w'
           go_simp
           with_reducible rfl
          rotate_left
          ·simp only [Act.put, sS_, sZ_, sC_, i64_w, i32_w]
           rfl
          refine pure_ (i := 7) (N := some 19) (v := ?_) (a' := ?_) D8_90 rfl rfl (any_of HT_.out (by kernel_rfl)) (fun _ _ _ h => h) (Or.inl ⟨by rfl, ?_⟩) ?_ ?_
          rotate_left
          ·intro w'
           go_simp
           with_reducible rfl
          rotate_left
          ·simp only [Act.put, sS_, sZ_, sC_, i64_w, i32_w]
           rfl
          refine pure_ (i := 8) (N := some 20) (v := ?_) (a' := ?_) D9_90 rfl rfl (any_of HT_.out (by kernel_rfl)) (fun _ _ _ h => h) (Or.inl ⟨by rfl, ?_⟩) ?_ ?_
          rotate_left
          ·intro w'
           go_simp
           with_reducible rfl
          rotate_left
          ·simp only [Act.put, sS_, sZ_, sC_, i64_w, i32_w]
           rfl
          refine pure_ (i := 9) (N := some 21) (v := ?_) (a' := ?_) D10_90 rfl rfl (any_of HT_.out (by kernel_rfl)) (fun _ _ _ h => h) (Or.inl ⟨by rfl, ?_⟩) ?_ ?_
          rotate_left
          ·intro w'
           go_simp
           with_reducible rfl
          rotate_left
          ·simp only [Act.put, sS_, sZ_, sC_, i64_w, i32_w]
           rfl
          refine pure_ (i := 10) (N := some 22) (v := ?_) (a' := ?_) D11_90 rfl rfl (any_of HT_.out (by kernel_rfl)) (fun _ _ _ h => h) (Or.inl ⟨by rfl, ?_⟩) ?_ ?_
          rotate_left
          ·intro w'
           go_simp
           with_reducible rfl
          rotate_left
          ·simp only [Act.put, sS_, sZ_, sC_, i64_w, i32_w]
           rfl
          refine pure_ (i := 11) (N := some 23) (v := ?_) (a' := ?_) D12_90 rfl rfl (any_of HT_.out (by kernel_rfl)) (fun _ _ _ h => h) (Or.inl ⟨by rfl, ?_⟩) ?_ ?_
          rotate_left
          ·intro w'
           go_simp
           with_reducible rfl
          rotate_left
          ·simp only [Act.put, sS_, sZ_, sC_, i64_w, i32_w]
           rfl
          refine pure_ (i := 12) (N := some 24) (v := ?_) (a' := ?_) D13_90 rfl rfl (any_of HT_.out (by kernel_rfl)) (fun _ _ _ h => h) (Or.inl ⟨by rfl, ?_⟩) ?_ ?_
          rotate_left
          ·intro w'
           go_simp
           with_reducible rfl
          rotate_left
          ·simp only [Act.put, sS_, sZ_, sC_, i64_w, i32_w]
           rfl
          refine pure_ (i := 13) (N := some 25) (v := ?_) (a' := ?_) D14_90 rfl rfl (any_of HT_.out (by kernel_rfl)) (fun _ _ _ h => h) (Or.inl ⟨by rfl, ?_⟩) ?_ ?_
          rotate_left
          ·intro w'
           go_simp
           with_reducible rfl
          rotate_left
          ·simp only [Act.put, sS_, sZ_, sC_, i64_w, i32_w]
           rfl
          refine pure_ (i := 14) (N := some 26) (v := ?_) (a' := ?_) D15_90 rfl rfl (any_of HT_.out (by kernel_rfl)) (fun _ _ _ h => h) (Or.inl ⟨by rfl, ?_⟩) ?_ ?_
          rotate_left
          ·intro w'
           go_simp
           with_reducible rfl
          rotate_left
          ·simp only [Act.put, sS_, sZ_, sC_, i64_w, i32_w]
           rfl
          refine pure_ (i := 16) (N := some 28) (v := ?_) (a' := ?_) D16_90 rfl rfl (any_of HT_.out (by kernel_rfl)) (fun _ _ _ h => h) (Or.inl ⟨by rfl, ?_⟩) ?_ ?_
          rotate_left
          ·intro w'
           go_simp
           with_reducible rfl
          rotate_left
          ·simp only [Act.put, sS_, sZ_, sC_, i64_w, i32_w]
           rfl
          refine pure_ (i := 17) (N := some 29) (v := ?_) (a' := ?_) D17_90 rfl rfl (any_of HT_.out (by kernel_rfl)) (fun _ _ _ h => h) (Or.inl ⟨by rfl, ?_⟩) ?_ ?_
          rotate_left
          ·intro w'
           go_simp
           with_reducible rfl
          rotate_left
          ·simp only [Act.put, sS_, sZ_, sC_, i64_w, i32_w]
           rfl
          refine pure_ (i := 18) (N := some 30) (v := ?_) (a' := ?_) D18_90 rfl rfl (any_of HT_.out (by kernel_rfl)) (fun _ _ _ h => h) (Or.inl ⟨by rfl, ?_⟩) ?_ ?_
          rotate_left
          ·intro w'
           go_simp
           with_reducible rfl
          rotate_left
          ·simp only [Act.put, sS_, sZ_, sC_, i64_w, i32_w]
           rfl
          refine take_ (i := 15) (N := some 27) (v := ?_) (a' := ?_) D19_90 rfl rfl (take_ofW HT_.out HW_.out (by kernel_rfl)) (fun _ _ _ h => h) (Or.inl ⟨by rfl, ?_⟩) hHeld ?_ ?_
          rotate_left
          ·rintro w' ⟨s0, s1, s2, s3, s4, s5, s6, s7, s8, s9, s10, s11, s12, s13, s14⟩
           go_simp
           with_reducible rfl
          rotate_left
          ·simp only [Act.put, sS_, sZ_, sC_, i64_w, i32_w]
           rfl
          refine take_ (i := 19) (N := some 31) (v := ?_) (a' := ?_) D20_90 rfl rfl (take_ofW HT_.out HW_.out (by kernel_rfl)) (fun _ _ _ h => h) (Or.inl ⟨by rfl, ?_⟩) hHeld ?_ ?_
          rotate_left
          ·rintro w' ⟨s0, s1, s2, s3, s4, s5, s6, s7, s8, s9, s10, s11, s12, s13, s14⟩
           go_simp
           with_reducible rfl
          rotate_left
          ·simp only [Act.put, sS_, sZ_, sC_, i64_w, i32_w]
           rfl
          refine one_ (i := 20) (N := some 32) D21_90 rfl rfl (one_of HT_.out (by kernel_rfl)) (by decide) (fun K hK => ?_)
          refine goes_ Try.func103 (by kernel_rfl) rfl #[.agg #[.int .i64 ((rd_T35 l1 (ji9)).f0), .int .i64 ((rd_T35 l1 (ji9)).f1), .int .i64 ((rd_T35 l1 (ji9)).f2), .int .i64 ((rd_T35 l1 (ji9)).f3)], .agg #[.int .i64 ((rd_T35 l1 x5_1).f0), .int .i64 ((rd_T35 l1 x5_1).f1), .int .i64 ((rd_T35 l1 x5_1).f2), .int .i64 ((rd_T35 l1 x5_1).f3)]] (by rfl) rfl rfl (by (try simp only [List.map_toArray, List.map_cons, List.map_nil]); first | done | (simp only [hji9]; rfl) | rfl | (simp only [List.length_drop, List.length_take]; rfl)) ?_
          with_reducible refine (spec_l22Before.calls ((rd_T35 l1 (ji9)).f0) ((rd_T35 l1 (ji9)).f1) ((rd_T35 l1 (ji9)).f2) ((rd_T35 l1 (ji9)).f3) ((rd_T35 l1 x5_1).f0) ((rd_T35 l1 x5_1).f1) ((rd_T35 l1 x5_1).f2) ((rd_T35 l1 x5_1).f3) false _ A12.out).mono ?_
          rintro e w19 ⟨rfl, hb⟩
          refine ⟨_, rfl, ?_⟩
          have n0_ := Aside0.mk (blk_below (g := gb782) (o := .cells #[.int .i64 a0_0, .int .i64 a0_1, .slice A0_2 l0_2.length c0_2] 26 (0, 0)) (by (with_reducible repeat (first | refine blk_drewN ?_ _ | refine blk_drew ?_ | refine blk_alloc ?_ _)); exact BK782.out) hb)
          have n1_ := Aside0.mk (below_step (by repeat (first | (with_reducible first | exact HB.out | apply below_alloc | apply pw_below_drewN | apply below_drew1 | refine below_set ?_ GE782.out) | exact HB.out)) hb)
          clear BK782
          clear HB
          have BK782 := n0_
          have HB := n1_
          clear n0_ n1_
          (try clear hb)
          (try clear hb2)
          (try clear hk)
          (try clear hi)
          refine hK.out _ _ ⟨(blk_cell BK782.out 0).trans rfl, (blk_cell BK782.out 1).trans rfl, (blk_cell BK782.out 2).trans rfl, ((HB.out.cell (World.block_lt_of_cell? w _ hw784_0)).trans hw784_0), ((HB.out.cell (World.block_lt_of_cell? w _ hw784_1)).trans hw784_1), ((HB.out.cell (World.block_lt_of_cell? w _ hw784_2)).trans hw784_2), ((HB.out.cell (World.block_lt_of_cell? w _ hw784_3)).trans hw784_3), ((HB.out.cell (World.block_lt_of_cell? w _ hw786_0)).trans hw786_0), ((HB.out.cell (World.block_lt_of_cell? w _ hw786_1)).trans hw786_1), ((HB.out.cell (World.block_lt_of_cell? w _ hw786_2)).trans hw786_2), ((HB.out.cell (World.block_lt_of_cell? w _ hw786_3)).trans hw786_3), ((HB.out.cell (World.block_lt_of_cell? w _ hw787_0)).trans hw787_0), ((HB.out.cell (World.block_lt_of_cell? w _ hw787_1)).trans hw787_1), ((HB.out.cell (World.block_lt_of_cell? w _ hw787_2)).trans hw787_2), ((HB.out.cell (World.block_lt_of_cell? w _ hw787_3)).trans hw787_3)⟩ (fun hHeld => ?_)
          clear hK K
          refine norm_ (a' := ?_) ?_ ?_
          rotate_left
          ·show Act.put _ (some 32) _ = _
           simp only [Act.put, sS_, sZ_, sC_, i64_w, i32_w]
           rfl
          refine pure_ (i := 21) (N := some 33) (v := ?_) (a' := ?_) D22_90 rfl rfl (any_of HT_.out (by kernel_rfl)) (fun _ _ _ h => h) (Or.inl ⟨by rfl, ?_⟩) ?_ ?_
          rotate_left
          ·intro w'
           go_simp
           with_reducible rfl
          rotate_left
          ·simp only [Act.put, sS_, sZ_, sC_, i64_w, i32_w]
           rfl
          refine pure_ (i := 22) (N := some 34) (v := ?_) (a' := ?_) D23_90 rfl rfl (any_of HT_.out (by kernel_rfl)) (fun _ _ _ h => h) (Or.inl ⟨by rfl, ?_⟩) ?_ ?_
          rotate_left
          ·intro w'
           go_simp
           with_reducible rfl
          rotate_left
          ·simp only [Act.put, sS_, sZ_, sC_, i64_w, i32_w]
           rfl
          refine pure_ (i := 23) (N := some 35) (v := ?_) (a' := ?_) D24_90 rfl rfl (any_of HT_.out (by kernel_rfl)) (fun _ _ _ h => h) (Or.inl ⟨by rfl, ?_⟩) ?_ ?_
          rotate_left
          ·intro w'
           go_simp
           with_reducible rfl
          rotate_left
          ·simp only [Act.put, sS_, sZ_, sC_, i64_w, i32_w]
           rfl
          refine done_ (done_of HT_.out (by kernel_rfl)) ?_
          try go_wp2
          go_ret
          exact ⟨by first | rfl | (simp [errW_none, errW_some] <;> rfl) | (simp only [← hji9]; first | rfl | (simp [errW_none, errW_some] <;> rfl)) | (simp [*, errW_none, errW_some] <;> rfl) | (simp [wrap64]; done), by repeat (first | (with_reducible first | exact HB.out | apply below_alloc | apply pw_below_drewN | apply below_drew1 | refine below_set ?_ GE782.out) | exact HB.out)⟩
        ·rw [if_neg c11] at H
         exact absurd H (by simp)
       ·rw [if_neg c10] at H
        exact absurd H (by simp)
      ·rw [if_neg c8] at H
       have c8b0 : decide (0 < x5_1) = false := decide_eq_false c8
       clear c8
       have H' := Aside0.mk H
       clear H
       try go_wp2
       have n0_ := Aside0.mk (blk_drew BK782.out)
       have n1_ := Aside0.mk (below_drew1 HB.out)
       clear BK782
       clear HB
       have BK782 := n0_
       have HB := n1_
       clear n0_ n1_
       have p784 : 0 ≤ (x5_1 : Int) := of_decide_eq_true (by first | (with_reducible assumption) | assumption)
       have q784 : x5_1 < (l1.length : Int) := of_decide_eq_true (by first | (with_reducible assumption) | assumption)
       obtain ⟨ad784, e784, hx784_0, hx784_1, hx784_2, hx784_3⟩ := at_T35 HR1.out x5_1 p784 q784
       have hw784_3 := hx784_3
       have hw784_2 := hx784_2
       have hw784_1 := hx784_1
       have hw784_0 := hx784_0
       cases e784
       replace hx784_0 := (HB.out.cell (World.block_lt_of_cell? w _ hx784_0)).trans hx784_0
       replace hx784_1 := (HB.out.cell (World.block_lt_of_cell? w _ hx784_1)).trans hx784_1
       replace hx784_2 := (HB.out.cell (World.block_lt_of_cell? w _ hx784_2)).trans hx784_2
       replace hx784_3 := (HB.out.cell (World.block_lt_of_cell? w _ hx784_3)).trans hx784_3
       replace p784 := eq_true p784
       replace q784 := eq_true q784
       refine start_ (n := 24) (S := fun w' => w'.cell? ⟨gb782, 0, none⟩ = some (.int .i64 a0_0) ∧ w'.cell? ⟨gb782, 1, none⟩ = some (.int .i64 a0_1) ∧ w'.cell? ⟨gb782, 2, none⟩ = some (.slice A0_2 l0_2.length c0_2) ∧ w'.cell? (ad784.add ((x5_1).toNat * 4)) = some (.int .i64 ((rd_T35 l1 x5_1).f0)) ∧ w'.cell? ⟨(ad784.add ((x5_1).toNat * 4)).block, (ad784.add ((x5_1).toNat * 4)).off + 1, none⟩ = some (.int .i64 ((rd_T35 l1 x5_1).f1)) ∧ w'.cell? ⟨(ad784.add ((x5_1).toNat * 4)).block, (ad784.add ((x5_1).toNat * 4)).off + 2, none⟩ = some (.int .i64 ((rd_T35 l1 x5_1).f2)) ∧ w'.cell? ⟨(ad784.add ((x5_1).toNat * 4)).block, (ad784.add ((x5_1).toNat * 4)).off + 3, none⟩ = some (.int .i64 ((rd_T35 l1 x5_1).f3))) (ds := []) D0_90 (by kernel_rfl) rfl rfl ⟨(blk_cell BK782.out 0).trans rfl, (blk_cell BK782.out 1).trans rfl, (blk_cell BK782.out 2).trans rfl, ((HB.out.cell (World.block_lt_of_cell? w _ hw784_0)).trans hw784_0), ((HB.out.cell (World.block_lt_of_cell? w _ hw784_1)).trans hw784_1), ((HB.out.cell (World.block_lt_of_cell? w _ hw784_2)).trans hw784_2), ((HB.out.cell (World.block_lt_of_cell? w _ hw784_3)).trans hw784_3)⟩ (fun hHeld => ?_); refine with_tabW spec_l22Good.tab4 spec_l22Good.bits4 (fun HT_ HW_ => ?_)
       generalize wr.drew = w20 at BK782 HB hx784_0 hx784_1 hx784_2 hx784_3 hHeld ⊢
       refine pure_ (i := 1) (N := some 13) (v := ?_) (a' := ?_) D1_90 rfl rfl (any_of HT_.out (by kernel_rfl)) (fun _ _ _ h => h) (Or.inl ⟨by rfl, ?_⟩) ?_ ?_
       rotate_left
       ·intro w'
        go_simp
        with_reducible rfl
       rotate_left
       ·simp only [Act.put, sS_, sZ_, sC_, i64_w, i32_w]
        rfl
       refine pure_ (i := 2) (N := some 14) (v := ?_) (a' := ?_) D2_90 rfl rfl (any_of HT_.out (by kernel_rfl)) (fun _ _ _ h => h) (Or.inl ⟨by rfl, ?_⟩) ?_ ?_
       rotate_left
       ·intro w'
        go_simp
        with_reducible rfl
       rotate_left
       ·simp only [Act.put, sS_, sZ_, sC_, i64_w, i32_w]
        rfl
       refine pure_ (i := 3) (N := some 15) (v := ?_) (a' := ?_) D3_90 rfl rfl (any_of HT_.out (by kernel_rfl)) (fun _ _ _ h => h) (Or.inl ⟨by rfl, ?_⟩) ?_ ?_
       rotate_left
       ·intro w'
        go_simp
        with_reducible rfl
       rotate_left
       ·simp only [Act.put, sS_, sZ_, sC_, i64_w, i32_w]
        rfl
       refine take_ (i := 0) (N := some 12) (v := ?_) (a' := ?_) D4_90 rfl rfl (take_ofW HT_.out HW_.out (by kernel_rfl)) (fun _ _ _ h => h) (Or.inl ⟨by rfl, ?_⟩) hHeld ?_ ?_
       rotate_left
       ·rintro w' ⟨s0, s1, s2, s3, s4, s5, s6⟩
        go_simp
        with_reducible rfl
       rotate_left
       ·simp only [Act.put, sS_, sZ_, sC_, i64_w, i32_w]
        rfl
       refine take_ (i := 4) (N := some 16) (v := ?_) (a' := ?_) D5_90 rfl rfl (take_ofW HT_.out HW_.out (by kernel_rfl)) (fun _ _ _ h => h) (Or.inl ⟨by rfl, ?_⟩) hHeld ?_ ?_
       rotate_left
       ·rintro w' ⟨s0, s1, s2, s3, s4, s5, s6⟩
        go_simp
        with_reducible rfl
       rotate_left
       ·simp only [Act.put, sS_, sZ_, sC_, i64_w, i32_w]
        rfl
       refine one_ (i := 5) (N := some 17) D6_90 rfl rfl (one_of HT_.out (by kernel_rfl)) (by decide) (fun K hK => ?_)
       refine goes_ Try.func106 (by kernel_rfl) rfl #[.agg #[.int .i64 a0_0, .int .i64 a0_1, .slice A0_2 l0_2.length c0_2], .agg #[.int .i64 ((rd_T35 l1 x5_1).f0), .int .i64 ((rd_T35 l1 x5_1).f1), .int .i64 ((rd_T35 l1 x5_1).f2), .int .i64 ((rd_T35 l1 x5_1).f3)]] (by rfl) rfl rfl (by (try simp only [List.map_toArray, List.map_cons, List.map_nil]); first | done | rfl | (simp only [List.length_drop, List.length_take]; rfl)) ?_
       with_reducible refine (spec_l22One.calls k1 a0_0 a0_1 _ _ l0_2 ((rd_T35 l1 x5_1).f0) ((rd_T35 l1 x5_1).f1) ((rd_T35 l1 x5_1).f2) ((rd_T35 l1 x5_1).f3) true _ ?side1 ?side2 A6.out).mono ?_
       (case side1 => repeat (first | exact (Kd.C_below HR0_2.out HB.out) | (with_reducible refine Kd.C_alloc ?_ _) | (with_reducible refine Kd.C_drewN ?_ _) | (with_reducible refine Kd.C_drew ?_)))
       (case side2 => exact HC0_2.out)
       rintro e w21 ⟨rfl, hb⟩
       refine ⟨_, rfl, ?_⟩
       have n0_ := Aside0.mk (blk_below (g := gb782) (o := .cells #[.int .i64 a0_0, .int .i64 a0_1, .slice A0_2 l0_2.length c0_2] 26 (0, 0)) (by (with_reducible repeat (first | refine blk_drewN ?_ _ | refine blk_drew ?_ | refine blk_alloc ?_ _)); exact BK782.out) hb)
       have n1_ := Aside0.mk (below_step (by repeat (first | (with_reducible first | exact HB.out | apply below_alloc | apply pw_below_drewN | apply below_drew1 | refine below_set ?_ GE782.out) | exact HB.out)) hb)
       clear BK782
       clear HB
       have BK782 := n0_
       have HB := n1_
       clear n0_ n1_
       (try clear hb)
       (try clear hb2)
       (try clear hk)
       (try clear hi)
       refine hK.out _ _ ⟨(blk_cell BK782.out 0).trans rfl, (blk_cell BK782.out 1).trans rfl, (blk_cell BK782.out 2).trans rfl, ((HB.out.cell (World.block_lt_of_cell? w _ hw784_0)).trans hw784_0), ((HB.out.cell (World.block_lt_of_cell? w _ hw784_1)).trans hw784_1), ((HB.out.cell (World.block_lt_of_cell? w _ hw784_2)).trans hw784_2), ((HB.out.cell (World.block_lt_of_cell? w _ hw784_3)).trans hw784_3)⟩ (fun hHeld => ?_)
       clear hK K
       refine norm_ (a' := ?_) ?_ ?_
       rotate_left
       ·show Act.put _ (some 17) _ = _
        simp only [Act.put, sS_, sZ_, sC_, i64_w, i32_w]
        rfl
       refine pure_ (i := 6) (N := some 18) (v := ?_) (a' := ?_) D7_90 rfl rfl (any_of HT_.out (by kernel_rfl)) (fun _ _ _ h => h) (Or.inl ⟨by rfl, ?_⟩) ?_ ?_
       rotate_left
       ·intro w'
        go_simp
        with_reducible rfl
       rotate_left
       ·simp only [Act.put, sS_, sZ_, sC_, i64_w, i32_w]
        rfl
       refine pure_ (i := 7) (N := some 19) (v := ?_) (a' := ?_) D8_90 rfl rfl (any_of HT_.out (by kernel_rfl)) (fun _ _ _ h => h) (Or.inl ⟨by rfl, ?_⟩) ?_ ?_
       rotate_left
       ·intro w'
        go_simp
        with_reducible rfl
       rotate_left
       ·simp only [Act.put, sS_, sZ_, sC_, i64_w, i32_w]
        rfl
       refine pure_ (i := 8) (N := some 20) (v := ?_) (a' := ?_) D9_90 rfl rfl (any_of HT_.out (by kernel_rfl)) (fun _ _ _ h => h) (Or.inl ⟨by rfl, ?_⟩) ?_ ?_
       rotate_left
       ·intro w'
        go_simp
        with_reducible rfl
       rotate_left
       ·simp only [Act.put, sS_, sZ_, sC_, i64_w, i32_w]
        rfl
       refine pure_ (i := 9) (N := some 21) (v := ?_) (a' := ?_) D10_90 rfl rfl (any_of HT_.out (by kernel_rfl)) (fun _ _ _ h => h) (Or.inl ⟨by rfl, ?_⟩) ?_ ?_
       rotate_left
       ·intro w'
        go_simp
        with_reducible rfl
       rotate_left
       ·simp only [Act.put, sS_, sZ_, sC_, i64_w, i32_w]
        rfl
       refine pure_ (i := 10) (N := some 22) (v := ?_) (a' := ?_) D11_90 rfl rfl (any_of HT_.out (by kernel_rfl)) (fun _ _ _ h => h) (Or.inl ⟨by rfl, ?_⟩) ?_ ?_
       rotate_left
       ·intro w'
        go_simp
        with_reducible rfl
       rotate_left
       ·simp only [Act.put, sS_, sZ_, sC_, i64_w, i32_w]
        rfl
       refine pure_ (i := 11) (N := some 23) (v := undef) (a' := ?_) D12_90 rfl rfl (any_of HT_.out (by kernel_rfl)) (fun _ _ _ h => h) (Or.inr ⟨by rfl, rfl⟩) ?_ ?_
       rotate_left
       ·simp only [Act.put, sS_, sZ_, sC_, i64_w, i32_w]
        rfl
       refine pure_ (i := 12) (N := some 24) (v := undef) (a' := ?_) D13_90 rfl rfl (any_of HT_.out (by kernel_rfl)) (fun _ _ _ h => h) (Or.inr ⟨by rfl, rfl⟩) ?_ ?_
       rotate_left
       ·simp only [Act.put, sS_, sZ_, sC_, i64_w, i32_w]
        rfl
       refine pure_ (i := 13) (N := some 25) (v := undef) (a' := ?_) D14_90 rfl rfl (any_of HT_.out (by kernel_rfl)) (fun _ _ _ h => h) (Or.inr ⟨by rfl, rfl⟩) ?_ ?_
       rotate_left
       ·simp only [Act.put, sS_, sZ_, sC_, i64_w, i32_w]
        rfl
       refine pure_ (i := 14) (N := some 26) (v := undef) (a' := ?_) D15_90 rfl rfl (any_of HT_.out (by kernel_rfl)) (fun _ _ _ h => h) (Or.inr ⟨by rfl, rfl⟩) ?_ ?_
       rotate_left
       ·simp only [Act.put, sS_, sZ_, sC_, i64_w, i32_w]
        rfl
       refine pure_ (i := 15) (N := some 27) (v := undef) (a' := ?_) D25_90 rfl rfl (any_of HT_.out (by kernel_rfl)) (fun _ _ _ h => h) (Or.inr ⟨by rfl, rfl⟩) ?_ ?_
       rotate_left
       ·simp only [Act.put, sS_, sZ_, sC_, i64_w, i32_w]
        rfl
       refine pure_ (i := 16) (N := some 28) (v := undef) (a' := ?_) D26_90 rfl rfl (any_of HT_.out (by kernel_rfl)) (fun _ _ _ h => h) (Or.inr ⟨by rfl, rfl⟩) ?_ ?_
       rotate_left
       ·simp only [Act.put, sS_, sZ_, sC_, i64_w, i32_w]
        rfl
       refine pure_ (i := 17) (N := some 29) (v := undef) (a' := ?_) D27_90 rfl rfl (any_of HT_.out (by kernel_rfl)) (fun _ _ _ h => h) (Or.inr ⟨by rfl, rfl⟩) ?_ ?_
       rotate_left
       ·simp only [Act.put, sS_, sZ_, sC_, i64_w, i32_w]
        rfl
       refine pure_ (i := 18) (N := some 30) (v := undef) (a' := ?_) D19_90 rfl rfl (any_of HT_.out (by kernel_rfl)) (fun _ _ _ h => h) (Or.inr ⟨by rfl, rfl⟩) ?_ ?_
       rotate_left
       ·simp only [Act.put, sS_, sZ_, sC_, i64_w, i32_w]
        rfl
       refine pure_ (i := 19) (N := some 31) (v := undef) (a' := ?_) D20_90 rfl rfl (any_of HT_.out (by kernel_rfl)) (fun _ _ _ h => h) (Or.inr ⟨by rfl, rfl⟩) ?_ ?_
       rotate_left
       ·simp only [Act.put, sS_, sZ_, sC_, i64_w, i32_w]
        rfl
       refine pure_ (i := 20) (N := some 32) (v := undef) (a' := ?_) D21_90 rfl rfl (any_of HT_.out (by kernel_rfl)) (fun _ _ _ h => h) (Or.inr ⟨by rfl, rfl⟩) ?_ ?_
       rotate_left
       ·simp only [Act.put, sS_, sZ_, sC_, i64_w, i32_w]
        rfl
       refine pure_ (i := 21) (N := some 33) (v := undef) (a' := ?_) D22_90 rfl rfl (any_of HT_.out (by kernel_rfl)) (fun _ _ _ h => h) (Or.inr ⟨by rfl, rfl⟩) ?_ ?_
       rotate_left
       ·simp only [Act.put, sS_, sZ_, sC_, i64_w, i32_w]
        rfl
       refine pure_ (i := 22) (N := some 34) (v := ?_) (a' := ?_) D23_90 rfl rfl (any_of HT_.out (by kernel_rfl)) (fun _ _ _ h => h) (Or.inl ⟨by rfl, ?_⟩) ?_ ?_
       rotate_left
       ·intro w'
        go_simp
        with_reducible rfl
       rotate_left
       ·simp only [Act.put, sS_, sZ_, sC_, i64_w, i32_w]
        rfl
       refine pure_ (i := 23) (N := some 35) (v := ?_) (a' := ?_) D24_90 rfl rfl (any_of HT_.out (by kernel_rfl)) (fun _ _ _ h => h) (Or.inl ⟨by rfl, ?_⟩) ?_ ?_
       rotate_left
       ·intro w'
        go_simp
        with_reducible rfl
       rotate_left
       ·simp only [Act.put, sS_, sZ_, sC_, i64_w, i32_w]
        rfl
       refine done_ (done_of HT_.out (by kernel_rfl)) ?_
       try go_wp2
       go_roundg k1
       case measure => have := HK1.out; omega
       case rel => exact ⟨(wrap64 (x5_1 + 1)), (by first | rfl | (simp; done) | (simp [*]; done)), H', ⟨by have := HK1.out; omega⟩, ⟨by (with_reducible repeat (first | refine blk_drewN ?_ _ | refine blk_drew ?_ | refine blk_alloc ?_ _)); exact BK782.out⟩, ⟨by repeat (first | (with_reducible first | exact HB.out | apply below_alloc | apply pw_below_drewN | apply below_drew1 | refine below_set ?_ GE782.out) | exact HB.out)⟩⟩
     ·replace c7 := Bool.eq_false_iff.mpr c7
      subst c7
      rw [if_neg (show ¬ (false = true) by decide)] at H
      obtain rfl := Option.some.inj H
      try go_wp2
      have n0_ := Aside0.mk (blk_drew BK782.out)
      have n1_ := Aside0.mk (below_drew1 HB.out)
      clear BK782
      clear HB
      have BK782 := n0_
      have HB := n1_
      clear n0_ n1_
      have p784 : 0 ≤ (x5_1 : Int) := of_decide_eq_true (by first | (with_reducible assumption) | assumption)
      have q784 : x5_1 < (l1.length : Int) := of_decide_eq_true (by first | (with_reducible assumption) | assumption)
      obtain ⟨ad784, e784, hx784_0, hx784_1, hx784_2, hx784_3⟩ := at_T35 HR1.out x5_1 p784 q784
      have hw784_3 := hx784_3
      have hw784_2 := hx784_2
      have hw784_1 := hx784_1
      have hw784_0 := hx784_0
      cases e784
      replace hx784_0 := (HB.out.cell (World.block_lt_of_cell? w _ hx784_0)).trans hx784_0
      replace hx784_1 := (HB.out.cell (World.block_lt_of_cell? w _ hx784_1)).trans hx784_1
      replace hx784_2 := (HB.out.cell (World.block_lt_of_cell? w _ hx784_2)).trans hx784_2
      replace hx784_3 := (HB.out.cell (World.block_lt_of_cell? w _ hx784_3)).trans hx784_3
      replace p784 := eq_true p784
      replace q784 := eq_true q784
      refine start_ (n := 24) (S := fun w' => w'.cell? ⟨gb782, 0, none⟩ = some (.int .i64 a0_0) ∧ w'.cell? ⟨gb782, 1, none⟩ = some (.int .i64 a0_1) ∧ w'.cell? ⟨gb782, 2, none⟩ = some (.slice A0_2 l0_2.length c0_2) ∧ w'.cell? (ad784.add ((x5_1).toNat * 4)) = some (.int .i64 ((rd_T35 l1 x5_1).f0)) ∧ w'.cell? ⟨(ad784.add ((x5_1).toNat * 4)).block, (ad784.add ((x5_1).toNat * 4)).off + 1, none⟩ = some (.int .i64 ((rd_T35 l1 x5_1).f1)) ∧ w'.cell? ⟨(ad784.add ((x5_1).toNat * 4)).block, (ad784.add ((x5_1).toNat * 4)).off + 2, none⟩ = some (.int .i64 ((rd_T35 l1 x5_1).f2)) ∧ w'.cell? ⟨(ad784.add ((x5_1).toNat * 4)).block, (ad784.add ((x5_1).toNat * 4)).off + 3, none⟩ = some (.int .i64 ((rd_T35 l1 x5_1).f3))) (ds := []) D0_90 (by kernel_rfl) rfl rfl ⟨(blk_cell BK782.out 0).trans rfl, (blk_cell BK782.out 1).trans rfl, (blk_cell BK782.out 2).trans rfl, ((HB.out.cell (World.block_lt_of_cell? w _ hw784_0)).trans hw784_0), ((HB.out.cell (World.block_lt_of_cell? w _ hw784_1)).trans hw784_1), ((HB.out.cell (World.block_lt_of_cell? w _ hw784_2)).trans hw784_2), ((HB.out.cell (World.block_lt_of_cell? w _ hw784_3)).trans hw784_3)⟩ (fun hHeld => ?_); refine with_tabW spec_l22Good.tab4 spec_l22Good.bits4 (fun HT_ HW_ => ?_)
      generalize wr.drew = w22 at BK782 HB hx784_0 hx784_1 hx784_2 hx784_3 hHeld ⊢
      refine pure_ (i := 1) (N := some 13) (v := ?_) (a' := ?_) D1_90 rfl rfl (any_of HT_.out (by kernel_rfl)) (fun _ _ _ h => h) (Or.inl ⟨by rfl, ?_⟩) ?_ ?_
      rotate_left
      ·intro w'
       go_simp
       with_reducible rfl
      rotate_left
      ·simp only [Act.put, sS_, sZ_, sC_, i64_w, i32_w]
       rfl
      refine pure_ (i := 2) (N := some 14) (v := ?_) (a' := ?_) D2_90 rfl rfl (any_of HT_.out (by kernel_rfl)) (fun _ _ _ h => h) (Or.inl ⟨by rfl, ?_⟩) ?_ ?_
      rotate_left
      ·intro w'
       go_simp
       with_reducible rfl
      rotate_left
      ·simp only [Act.put, sS_, sZ_, sC_, i64_w, i32_w]
       rfl
      refine pure_ (i := 3) (N := some 15) (v := ?_) (a' := ?_) D3_90 rfl rfl (any_of HT_.out (by kernel_rfl)) (fun _ _ _ h => h) (Or.inl ⟨by rfl, ?_⟩) ?_ ?_
      rotate_left
      ·intro w'
       go_simp
       with_reducible rfl
      rotate_left
      ·simp only [Act.put, sS_, sZ_, sC_, i64_w, i32_w]
       rfl
      refine take_ (i := 0) (N := some 12) (v := ?_) (a' := ?_) D4_90 rfl rfl (take_ofW HT_.out HW_.out (by kernel_rfl)) (fun _ _ _ h => h) (Or.inl ⟨by rfl, ?_⟩) hHeld ?_ ?_
      rotate_left
      ·rintro w' ⟨s0, s1, s2, s3, s4, s5, s6⟩
       go_simp
       with_reducible rfl
      rotate_left
      ·simp only [Act.put, sS_, sZ_, sC_, i64_w, i32_w]
       rfl
      refine take_ (i := 4) (N := some 16) (v := ?_) (a' := ?_) D5_90 rfl rfl (take_ofW HT_.out HW_.out (by kernel_rfl)) (fun _ _ _ h => h) (Or.inl ⟨by rfl, ?_⟩) hHeld ?_ ?_
      rotate_left
      ·rintro w' ⟨s0, s1, s2, s3, s4, s5, s6⟩
       go_simp
       with_reducible rfl
      rotate_left
      ·simp only [Act.put, sS_, sZ_, sC_, i64_w, i32_w]
       rfl
      refine one_ (i := 5) (N := some 17) D6_90 rfl rfl (one_of HT_.out (by kernel_rfl)) (by decide) (fun K hK => ?_)
      refine goes_ Try.func106 (by kernel_rfl) rfl #[.agg #[.int .i64 a0_0, .int .i64 a0_1, .slice A0_2 l0_2.length c0_2], .agg #[.int .i64 ((rd_T35 l1 x5_1).f0), .int .i64 ((rd_T35 l1 x5_1).f1), .int .i64 ((rd_T35 l1 x5_1).f2), .int .i64 ((rd_T35 l1 x5_1).f3)]] (by rfl) rfl rfl (by (try simp only [List.map_toArray, List.map_cons, List.map_nil]); first | done | rfl | (simp only [List.length_drop, List.length_take]; rfl)) ?_
      with_reducible refine (spec_l22One.calls k1 a0_0 a0_1 _ _ l0_2 ((rd_T35 l1 x5_1).f0) ((rd_T35 l1 x5_1).f1) ((rd_T35 l1 x5_1).f2) ((rd_T35 l1 x5_1).f3) false _ ?side1 ?side2 A6.out).mono ?_
      (case side1 => repeat (first | exact (Kd.C_below HR0_2.out HB.out) | (with_reducible refine Kd.C_alloc ?_ _) | (with_reducible refine Kd.C_drewN ?_ _) | (with_reducible refine Kd.C_drew ?_)))
      (case side2 => exact HC0_2.out)
      rintro e w23 ⟨rfl, hb⟩
      refine ⟨_, rfl, ?_⟩
      have n0_ := Aside0.mk (blk_below (g := gb782) (o := .cells #[.int .i64 a0_0, .int .i64 a0_1, .slice A0_2 l0_2.length c0_2] 26 (0, 0)) (by (with_reducible repeat (first | refine blk_drewN ?_ _ | refine blk_drew ?_ | refine blk_alloc ?_ _)); exact BK782.out) hb)
      have n1_ := Aside0.mk (below_step (by repeat (first | (with_reducible first | exact HB.out | apply below_alloc | apply pw_below_drewN | apply below_drew1 | refine below_set ?_ GE782.out) | exact HB.out)) hb)
      clear BK782
      clear HB
      have BK782 := n0_
      have HB := n1_
      clear n0_ n1_
      (try clear hb)
      (try clear hb2)
      (try clear hk)
      (try clear hi)
      refine hK.out _ _ ⟨(blk_cell BK782.out 0).trans rfl, (blk_cell BK782.out 1).trans rfl, (blk_cell BK782.out 2).trans rfl, ((HB.out.cell (World.block_lt_of_cell? w _ hw784_0)).trans hw784_0), ((HB.out.cell (World.block_lt_of_cell? w _ hw784_1)).trans hw784_1), ((HB.out.cell (World.block_lt_of_cell? w _ hw784_2)).trans hw784_2), ((HB.out.cell (World.block_lt_of_cell? w _ hw784_3)).trans hw784_3)⟩ (fun hHeld => ?_)
      clear hK K
      refine norm_ (a' := ?_) ?_ ?_
      rotate_left
      ·show Act.put _ (some 17) _ = _
       simp only [Act.put, sS_, sZ_, sC_, i64_w, i32_w]
       rfl
      refine pure_ (i := 6) (N := some 18) (v := ?_) (a' := ?_) D7_90 rfl rfl (any_of HT_.out (by kernel_rfl)) (fun _ _ _ h => h) (Or.inl ⟨by rfl, ?_⟩) ?_ ?_
      rotate_left
      ·intro w'
       go_simp
       with_reducible rfl
      rotate_left
      ·simp only [Act.put, sS_, sZ_, sC_, i64_w, i32_w]
       rfl
      refine pure_ (i := 7) (N := some 19) (v := ?_) (a' := ?_) D8_90 rfl rfl (any_of HT_.out (by kernel_rfl)) (fun _ _ _ h => h) (Or.inl ⟨by rfl, ?_⟩) ?_ ?_
      rotate_left
      ·intro w'
       go_simp
       with_reducible rfl
      rotate_left
      ·simp only [Act.put, sS_, sZ_, sC_, i64_w, i32_w]
       rfl
      refine pure_ (i := 8) (N := some 20) (v := undef) (a' := ?_) D9_90 rfl rfl (any_of HT_.out (by kernel_rfl)) (fun _ _ _ h => h) (Or.inr ⟨by rfl, rfl⟩) ?_ ?_
      rotate_left
      ·simp only [Act.put, sS_, sZ_, sC_, i64_w, i32_w]
       rfl
      refine pure_ (i := 9) (N := some 21) (v := undef) (a' := ?_) D10_90 rfl rfl (any_of HT_.out (by kernel_rfl)) (fun _ _ _ h => h) (Or.inr ⟨by rfl, rfl⟩) ?_ ?_
      rotate_left
      ·simp only [Act.put, sS_, sZ_, sC_, i64_w, i32_w]
       rfl
      refine pure_ (i := 10) (N := some 22) (v := undef) (a' := ?_) D11_90 rfl rfl (any_of HT_.out (by kernel_rfl)) (fun _ _ _ h => h) (Or.inr ⟨by rfl, rfl⟩) ?_ ?_
      rotate_left
      ·simp only [Act.put, sS_, sZ_, sC_, i64_w, i32_w]
       rfl
      refine pure_ (i := 11) (N := some 23) (v := undef) (a' := ?_) D12_90 rfl rfl (any_of HT_.out (by kernel_rfl)) (fun _ _ _ h => h) (Or.inr ⟨by rfl, rfl⟩) ?_ ?_
      rotate_left
      ·simp only [Act.put, sS_, sZ_, sC_, i64_w, i32_w]
       rfl
      refine pure_ (i := 12) (N := some 24) (v := undef) (a' := ?_) D13_90 rfl rfl (any_of HT_.out (by kernel_rfl)) (fun _ _ _ h => h) (Or.inr ⟨by rfl, rfl⟩) ?_ ?_
      rotate_left
      ·simp only [Act.put, sS_, sZ_, sC_, i64_w, i32_w]
       rfl
      refine pure_ (i := 13) (N := some 25) (v := undef) (a' := ?_) D14_90 rfl rfl (any_of HT_.out (by kernel_rfl)) (fun _ _ _ h => h) (Or.inr ⟨by rfl, rfl⟩) ?_ ?_
      rotate_left
      ·simp only [Act.put, sS_, sZ_, sC_, i64_w, i32_w]
       rfl
      refine pure_ (i := 14) (N := some 26) (v := undef) (a' := ?_) D15_90 rfl rfl (any_of HT_.out (by kernel_rfl)) (fun _ _ _ h => h) (Or.inr ⟨by rfl, rfl⟩) ?_ ?_
      rotate_left
      ·simp only [Act.put, sS_, sZ_, sC_, i64_w, i32_w]
       rfl
      refine pure_ (i := 15) (N := some 27) (v := undef) (a' := ?_) D25_90 rfl rfl (any_of HT_.out (by kernel_rfl)) (fun _ _ _ h => h) (Or.inr ⟨by rfl, rfl⟩) ?_ ?_
      rotate_left
      ·simp only [Act.put, sS_, sZ_, sC_, i64_w, i32_w]
       rfl
      refine pure_ (i := 16) (N := some 28) (v := undef) (a' := ?_) D26_90 rfl rfl (any_of HT_.out (by kernel_rfl)) (fun _ _ _ h => h) (Or.inr ⟨by rfl, rfl⟩) ?_ ?_
      rotate_left
      ·simp only [Act.put, sS_, sZ_, sC_, i64_w, i32_w]
       rfl
      refine pure_ (i := 17) (N := some 29) (v := undef) (a' := ?_) D27_90 rfl rfl (any_of HT_.out (by kernel_rfl)) (fun _ _ _ h => h) (Or.inr ⟨by rfl, rfl⟩) ?_ ?_
      rotate_left
      ·simp only [Act.put, sS_, sZ_, sC_, i64_w, i32_w]
       rfl
      refine pure_ (i := 18) (N := some 30) (v := undef) (a' := ?_) D19_90 rfl rfl (any_of HT_.out (by kernel_rfl)) (fun _ _ _ h => h) (Or.inr ⟨by rfl, rfl⟩) ?_ ?_
      rotate_left
      ·simp only [Act.put, sS_, sZ_, sC_, i64_w, i32_w]
       rfl
      refine pure_ (i := 19) (N := some 31) (v := undef) (a' := ?_) D20_90 rfl rfl (any_of HT_.out (by kernel_rfl)) (fun _ _ _ h => h) (Or.inr ⟨by rfl, rfl⟩) ?_ ?_
      rotate_left
      ·simp only [Act.put, sS_, sZ_, sC_, i64_w, i32_w]
       rfl
      refine pure_ (i := 20) (N := some 32) (v := undef) (a' := ?_) D21_90 rfl rfl (any_of HT_.out (by kernel_rfl)) (fun _ _ _ h => h) (Or.inr ⟨by rfl, rfl⟩) ?_ ?_
      rotate_left
      ·simp only [Act.put, sS_, sZ_, sC_, i64_w, i32_w]
       rfl
      refine pure_ (i := 21) (N := some 33) (v := undef) (a' := ?_) D22_90 rfl rfl (any_of HT_.out (by kernel_rfl)) (fun _ _ _ h => h) (Or.inr ⟨by rfl, rfl⟩) ?_ ?_
      rotate_left
      ·simp only [Act.put, sS_, sZ_, sC_, i64_w, i32_w]
       rfl
      refine pure_ (i := 22) (N := some 34) (v := undef) (a' := ?_) D23_90 rfl rfl (any_of HT_.out (by kernel_rfl)) (fun _ _ _ h => h) (Or.inr ⟨by rfl, rfl⟩) ?_ ?_
      rotate_left
      ·simp only [Act.put, sS_, sZ_, sC_, i64_w, i32_w]
       rfl
      refine pure_ (i := 23) (N := some 35) (v := ?_) (a' := ?_) D24_90 rfl rfl (any_of HT_.out (by kernel_rfl)) (fun _ _ _ h => h) (Or.inl ⟨by rfl, ?_⟩) ?_ ?_
      rotate_left
      ·intro w'
       go_simp
       with_reducible rfl
      rotate_left
      ·simp only [Act.put, sS_, sZ_, sC_, i64_w, i32_w]
       rfl
      refine done_ (done_of HT_.out (by kernel_rfl)) ?_
      try go_wp2
      go_ret
      exact ⟨by first | rfl | (simp [errW_none, errW_some] <;> rfl) | (simp [*, errW_none, errW_some] <;> rfl) | (simp [wrap64]; done), by repeat (first | (with_reducible first | exact HB.out | apply below_alloc | apply pw_below_drewN | apply below_drew1 | refine below_set ?_ GE782.out) | exact HB.out)⟩
    ·rw [if_neg c5] at H
     exact absurd H (by simp)
   ·rw [if_neg c4] at H
    have c4b0 : decide (x5_1 < (l1.length : Int)) = false := decide_eq_false c4
    clear c4
    replace H := Option.bind_eq_some_iff.mp H
    obtain ⟨t783, A240, H⟩ := H
    have A24 := Aside0.mk A240
    clear A240
    by_cases c25 : t783 = true
    ·subst c25
     rw [if_pos rfl] at H
     obtain rfl := Option.some.inj H
     have hcz26_0 : wr.cell? ⟨gb782, 0, none⟩ = some (.int .i64 a0_0) := (blk_cell BK782.out 0).trans rfl
     have hcz26_1 : wr.cell? ⟨gb782, 1, none⟩ = some (.int .i64 a0_1) := (blk_cell BK782.out 1).trans rfl
     have hcz26_2 : wr.cell? ⟨gb782, 2, none⟩ = some (.slice A0_2 l0_2.length c0_2) := (blk_cell BK782.out 2).trans rfl
     have hfz26_0 := blk_frozen BK782.out 0
     have hfz26_1 := blk_frozen BK782.out 1
     have hfz26_2 := blk_frozen BK782.out 2
     go_wp2_with (first | ((with_reducible refine gate_callee (f := 144) rfl ?_); refine goesL_ (some 37) rfl rfl Try.func144 (by kernel_rfl) rfl #[.agg #[.int .i64 a0_0, .int .i64 a0_1, .slice A0_2 l0_2.length c0_2]] rfl (by (try simp only [List.map_toArray, List.map_cons, List.map_nil]); first | done | rfl | (simp only [List.length_drop, List.length_take]; rfl)) ?_; (with_reducible refine (spec_l2Good.calls k1 a0_0 a0_1 _ _ l0_2 true _ ?side1 ?side2 A24.out).mono ?_); (case side1 => repeat (first | exact (Kd.C_below HR0_2.out HB.out) | (with_reducible refine Kd.C_alloc ?_ _) | (with_reducible refine Kd.C_drewN ?_ _) | (with_reducible refine Kd.C_drew ?_))); (case side2 => exact HC0_2.out); rintro e w27 ⟨rfl, hb⟩; refine ⟨_, rfl, ?_⟩; have n0_ := Aside0.mk (blk_below (g := gb782) (o := .cells #[.int .i64 a0_0, .int .i64 a0_1, .slice A0_2 l0_2.length c0_2] 26 (0, 0)) (by (with_reducible repeat (first | refine blk_drewN ?_ _ | refine blk_drew ?_ | refine blk_alloc ?_ _)); exact BK782.out) hb); have n1_ := Aside0.mk (below_step (by repeat (first | (with_reducible first | exact HB.out | apply below_alloc | apply pw_below_drewN | apply below_drew1 | refine below_set ?_ GE782.out) | exact HB.out)) hb); clear BK782; clear HB; have BK782 := n0_; have HB := n1_; clear n0_ n1_; (try clear hb); (try clear hb2); (try clear hk); (try clear hi)))
     go_ret
     exact ⟨by first | rfl | (simp [errW_none, errW_some] <;> rfl) | (simp [*, errW_none, errW_some] <;> rfl) | (simp [wrap64]; done), by repeat (first | (with_reducible first | exact HB.out | apply below_alloc | apply pw_below_drewN | apply below_drew1 | refine below_set ?_ GE782.out) | exact HB.out)⟩
    ·replace c25 := Bool.eq_false_iff.mpr c25
     subst c25
     rw [if_neg (show ¬ (false = true) by decide)] at H
     obtain rfl := Option.some.inj H
     have hcz28_0 : wr.cell? ⟨gb782, 0, none⟩ = some (.int .i64 a0_0) := (blk_cell BK782.out 0).trans rfl
     have hcz28_1 : wr.cell? ⟨gb782, 1, none⟩ = some (.int .i64 a0_1) := (blk_cell BK782.out 1).trans rfl
     have hcz28_2 : wr.cell? ⟨gb782, 2, none⟩ = some (.slice A0_2 l0_2.length c0_2) := (blk_cell BK782.out 2).trans rfl
     have hfz28_0 := blk_frozen BK782.out 0
     have hfz28_1 := blk_frozen BK782.out 1
     have hfz28_2 := blk_frozen BK782.out 2
     go_wp2_with (first | ((with_reducible refine gate_callee (f := 144) rfl ?_); refine goesL_ (some 37) rfl rfl Try.func144 (by kernel_rfl) rfl #[.agg #[.int .i64 a0_0, .int .i64 a0_1, .slice A0_2 l0_2.length c0_2]] rfl (by (try simp only [List.map_toArray, List.map_cons, List.map_nil]); first | done | rfl | (simp only [List.length_drop, List.length_take]; rfl)) ?_; (with_reducible refine (spec_l2Good.calls k1 a0_0 a0_1 _ _ l0_2 false _ ?side1 ?side2 A24.out).mono ?_); (case side1 => repeat (first | exact (Kd.C_below HR0_2.out HB.out) | (with_reducible refine Kd.C_alloc ?_ _) | (with_reducible refine Kd.C_drewN ?_ _) | (with_reducible refine Kd.C_drew ?_))); (case side2 => exact HC0_2.out); rintro e w29 ⟨rfl, hb⟩; refine ⟨_, rfl, ?_⟩; have n0_ := Aside0.mk (blk_below (g := gb782) (o := .cells #[.int .i64 a0_0, .int .i64 a0_1, .slice A0_2 l0_2.length c0_2] 26 (0, 0)) (by (with_reducible repeat (first | refine blk_drewN ?_ _ | refine blk_drew ?_ | refine blk_alloc ?_ _)); exact BK782.out) hb); have n1_ := Aside0.mk (below_step (by repeat (first | (with_reducible first | exact HB.out | apply below_alloc | apply pw_below_drewN | apply below_drew1 | refine below_set ?_ GE782.out) | exact HB.out)) hb); clear BK782; clear HB; have BK782 := n0_; have HB := n1_; clear n0_ n1_; (try clear hb); (try clear hb2); (try clear hk); (try clear hi)))
     go_ret
     exact ⟨by first | rfl | (simp [errW_none, errW_some] <;> rfl) | (simp [*, errW_none, errW_some] <;> rfl) | (simp [wrap64]; done), by repeat (first | (with_reducible first | exact HB.out | apply below_alloc | apply pw_below_drewN | apply below_drew1 | refine below_set ?_ GE782.out) | exact HB.out)⟩

end Go.Proofs.Ytkglpfdoefdhdaa.Q

namespace Go.Proofs.Ytkglpfdoefdhdaa.M
open Go.RowKit Go.Proofs.Ytkglpfdoefdhdaa.Q Go.Proofs.YtkglpfdoefdhdaaW.PrintWords Go.Proofs.YtkglpfdoefdhdaaW.PrintLast Go.Proofs.YtkglpfdoefdhdaaW.Pl Classical
set_option linter.unusedSimpArgs false
set_option linter.unusedVariables false
theorem rd35 (l : List S35) (i : Nat) : rd_T35 l (i : Int) = nth l i z35 := by unfold rd_T35 nth; simp
theorem rd48 (l : List S48) (i : Nat) : rd_T48 l (i : Int) = nth l i z48 := by unfold rd_T48 nth; simp
def cvFlaw (x : S48) : S35 := ⟨x.f0, x.f1, x.f2, x.f3⟩
theorem toFlaws (l : List S48) (hm : l.length ≤ 1048576) : Ev (fun k => laws_toFlawS.f k l) (l.map cvFlaw) := by
  refine ⟨l.length + 1, fun k hk => ?_⟩
  show laws_toFlawS.f k l = _
  unfold laws_toFlawS.f
  rw [if_pos (by omega), if_pos (by omega)]
  have h := fill_gen l cvFlaw (fun k acc i => laws_toFlawS.l0 k l acc i) ?hstep ?hend k hk (List.replicate l.length z35) (by simp)
  case hstep =>
    intro k acc i hi ha
    simp only [laws_toFlawS.l0]
    rw [if_pos (by omega), if_pos (by omega), rd48, nth_get hi]
    simp only [laws_toFlaw.f, Option.bind_some]
    rw [if_pos (by omega), w64 (x := (i : Int) + 1) (by omega)]
    rfl
  case hend =>
    intro k acc
    simp [laws_toFlawS.l0]
  simpa using h
theorem eqFlaws (l : List S35) (hm : l.length ≤ 1048576) : Ev (fun k => laws_eqFlawS.f k l l) true := by
  unfold laws_eqFlawS.f
  simp only [if_true]
  have h := scanE l.length (fun _ => true) true false (fun k i => laws_eqFlawS.l0 k l l i) ?hs ?hb ?he
  case hs =>
    intro i r hi _ hr
    refine Ev.succ ?_
    simp only [laws_eqFlawS.l0, laws_eqFlaw.f, if_pos (show (i : Int) < (l.length : Int) by omega), if_pos (show (0 : Int) ≤ (i : Int) by omega), if_true, Option.bind_some, w64 (x := (i : Int) + 1) (by omega)]
    exact hr
  case hb => intro i _ h; cases h
  case he =>
    refine Ev.succ ?_
    simp only [laws_eqFlawS.l0, if_neg (show ¬ ((l.length : Int) < (l.length : Int)) by omega)]
    exact Ev.now _
  simpa using h
theorem markStepFlaw (l : List S35) (m i : Int) (h0 : 0 ≤ i) (h1 : i < (l.length : Int)) : ∃ b : List S35, b.length = l.length ∧ ∀ k, laws_markFlawS.l0 (k + 1) l m i = laws_markFlawS.l0 k b (wrap64 ((wrap64 ((wrap64 ((wrap64 (m + 1)) + 1)) + 1)) + 1)) (wrap64 (i + 1)) := by
  simp only [laws_markFlawS.l0, if_pos h1, if_pos h0]
  generalize (i.toNat) = j
  refine bindLen _ _ (fun b k => laws_markFlawS.l0 k b _ _) (by rw [List.length_set]) (fun b1 hb1 => ?_)
  refine bindLen _ _ (fun b k => laws_markFlawS.l0 k b _ _) (by rw [List.length_set]; exact hb1) (fun b2 hb2 => ?_)
  refine bindLen _ _ (fun b k => laws_markFlawS.l0 k b _ _) (by rw [List.length_set]; exact hb2) (fun b3 hb3 => ?_)
  exact ⟨_, by rw [List.length_set]; exact hb3, fun _ => rfl⟩
/-- A list of them is marked: the marks stay positive. -/
theorem markFlaws (l : List S35) (hm : l.length ≤ 1048576) (m0 : Nat) (hm0 : m0 ≤ 1099511627776) : ∃ l', Ev (fun k => laws_markFlawS.f k l (m0 : Int)) (((4 * l.length + m0 : Nat) : Int), l') := by
  have main : ∀ d (i m : Nat) (a : List S35), m = 4 * i + m0 → a.length = l.length → l.length - i = d → i ≤ l.length → ∃ l', Ev (fun k => laws_markFlawS.l0 k a (m : Int) (i : Int)) (((4 * l.length + m0 : Nat) : Int), l') := by
    intro d
    induction d with
    | zero =>
      intro i m a hmi ha hd hi
      have hil : i = l.length := by omega
      refine ⟨a, Ev.succ ?_⟩
      simp only [laws_markFlawS.l0, if_neg (show ¬ ((i : Int) < (a.length : Int)) by omega)]
      rw [hmi, hil]
      exact Ev.now _
    | succ d ih =>
      intro i m a hmi ha hd hi
      have hb1 : m < 4611686018427380000 := by omega
      obtain ⟨b, hb, hs⟩ := markStepFlaw a (m : Int) (i : Int) (by omega) (by omega)
      rw [stepI (m) (by omega), stepI (m + 1) (by omega), stepI (m + 1 + 1) (by omega), stepI (m + 1 + 1 + 1) (by omega), stepI i (by omega)] at hs
      obtain ⟨l', h⟩ := ih (i + 1) (m + 1 + 1 + 1 + 1) b (by clear hs; omega) (by clear hs; omega) (by clear hs; omega) (by clear hs; omega)
      refine ⟨l', Ev.succ ?_⟩
      have : (fun k => laws_markFlawS.l0 (k + 1) a (m : Int) (i : Int)) = (fun k => laws_markFlawS.l0 k b ((m + 1 + 1 + 1 + 1 : Nat) : Int) ((i + 1 : Nat) : Int)) := funext hs
      rw [this]
      exact h
  exact main l.length 0 m0 l (by omega) rfl (by omega) (by omega)
theorem szFlaws (l : List S48) (a : Int) (hn : l.length ≤ maxLen) (ha : 0 ≤ a ∧ a ≤ 1048576) : ∃ r, laws_szFlawS.f l a = some r ∧ (r < 0 ∨ (0 ≤ r ∧ r ≤ 1048576 ∧ l.length ≤ 1048576)) := by
  unfold laws_szFlawS.f
  rw [szW a _ hn ha]
  by_cases h : a - (l.length : Int) < 0
  · exact ⟨-1, by rw [if_pos h], .inl (by omega)⟩
  · exact ⟨_, by rw [if_neg h], .inr (by omega)⟩
/-! Marks in the fields of flaws. -/
def mkF (m : Int) : S35 := ⟨m, m + 1, m + 2, m + 3⟩
def marksF (n : Nat) : List S35 := (List.range n).map fun j : Nat => mkF ((4 * j + 1 : Nat) : Int)
theorem marksF_len (n : Nat) : (marksF n).length = n := by unfold marksF; simp
theorem marksF_nth (n i : Nat) (h : i < n) : nth (marksF n) i z35 = mkF ((4 * i + 1 : Nat) : Int) := by rw [nth_get (by rw [marksF_len]; exact h)]; unfold marksF; simp
theorem nthSetF {l : List S35} {i : Nat} {v : S35} (h : i < l.length) : nth (l.set i v) i z35 = v := by rw [nth_get (by simpa using h)]; simp
theorem markOneF (k : Nat) (a : List S35) (m i : Nat) (hi : i < a.length) (hm : m ≤ 4398046511104) (hib : i ≤ 1048576) : laws_markFlawS.l0 (k + 1) a (m : Int) (i : Int) = laws_markFlawS.l0 k (a.set i (mkF (m : Int))) ((m + 4 : Nat) : Int) ((i + 1 : Nat) : Int) := by
  have e1 : wrap64 ((m : Int) + 1) = (m : Int) + 1 := w64 (by omega)
  have e2 : wrap64 ((m : Int) + 1 + 1) = (m : Int) + 2 := by rw [w64 (by omega)]; omega
  have e3 : wrap64 ((m : Int) + 2 + 1) = (m : Int) + 3 := by rw [w64 (by omega)]; omega
  have e4 : wrap64 ((m : Int) + 3 + 1) = ((m + 4 : Nat) : Int) := by rw [w64 (by omega)]; omega
  have e5 : wrap64 ((i : Int) + 1) = ((i + 1 : Nat) : Int) := by rw [w64 (by omega)]; omega
  simp only [laws_markFlawS.l0, if_pos (show (i : Int) < (a.length : Int) by omega), if_pos (show (0 : Int) ≤ (i : Int) by omega), Option.bind_some, Int.toNat_natCast, rd35, List.set_set, e1, e2, e3, e4, e5, nthSetF hi]
  rfl
theorem markFlawsX (l : List S35) (hm : l.length ≤ 1048576) : Ev (fun k => laws_markFlawS.f k l 1) (((4 * l.length + 1 : Nat) : Int), marksF l.length) := by
  have main : ∀ d (i m : Nat) (a : List S35), m = 4 * i + 1 → a.length = l.length → l.length - i = d → i ≤ l.length → (∀ j, j < i → nth a j z35 = mkF ((4 * j + 1 : Nat) : Int)) → Ev (fun k => laws_markFlawS.l0 k a (m : Int) (i : Int)) (((4 * l.length + 1 : Nat) : Int), marksF l.length) := by
    intro d
    induction d with
    | zero =>
      intro i m a hmi ha hd hi hj
      have hil : i = l.length := by omega
      refine Ev.succ ?_
      simp only [laws_markFlawS.l0, if_neg (show ¬ ((i : Int) < (a.length : Int)) by omega)]
      have e : a = marksF l.length := by
        apply List.ext_getElem (by rw [ha, marksF_len])
        intro j h1 h2
        rw [marksF_len] at h2
        have := hj j (by omega)
        rw [nth_get h1] at this
        have h3 := marksF_nth l.length j h2
        rw [nth_get (by rw [marksF_len]; exact h2)] at h3
        rw [this, h3]
      rw [e, hmi, hil]
      exact Ev.now _
    | succ d ih =>
      intro i m a hmi ha hd hi hj
      refine Ev.succ ?_
      simp only [markOneF _ a m i (by omega) (by omega) (by omega)]
      refine ih (i + 1) (m + 4) _ (by omega) (by simp [ha]) (by omega) (by omega) (fun j hj2 => ?_)
      by_cases e : j = i
      · subst e; rw [nthSetF (by omega), hmi]
      · have := hj j (by omega)
        rw [nth_get (by omega)] at this
        rw [nth_get (by simp; omega), List.getElem_set_ne (by omega)]
        exact this
  exact main l.length 0 1 l rfl rfl (by omega) (by omega) (fun j hj => by omega)
theorem heldOneF (k : Nat) (a : List S35) (m i : Nat) (hi : i < a.length) (hn : nth a i z35 = mkF (m : Int)) (hm : m ≤ 4398046511104) (hib : i ≤ 1048576) : laws_heldFlawS.l0 (k + 1) a (m : Int) (i : Int) = laws_heldFlawS.l0 k a ((m + 4 : Nat) : Int) ((i + 1 : Nat) : Int) := by
  have e1 : wrap64 ((m : Int) + 1) = (m : Int) + 1 := w64 (by omega)
  have e2 : wrap64 ((m : Int) + 1 + 1) = (m : Int) + 2 := by rw [w64 (by omega)]; omega
  have e3 : wrap64 ((m : Int) + 2 + 1) = (m : Int) + 3 := by rw [w64 (by omega)]; omega
  have e4 : wrap64 ((m : Int) + 3 + 1) = ((m + 4 : Nat) : Int) := by rw [w64 (by omega)]; omega
  have e5 : wrap64 ((i : Int) + 1) = ((i + 1 : Nat) : Int) := by rw [w64 (by omega)]; omega
  simp only [laws_heldFlawS.l0, if_pos (show (i : Int) < (a.length : Int) by omega), if_pos (show (0 : Int) ≤ (i : Int) by omega), rd35, e1, e2, e3, e4, e5, hn]
  rw [if_pos (show (mkF (m : Int)).f0 = (m : Int) from rfl), if_pos (show (mkF (m : Int)).f1 = (m : Int) + 1 from rfl), if_pos (show (mkF (m : Int)).f2 = (m : Int) + 2 from rfl), if_pos (show (mkF (m : Int)).f3 = (m : Int) + 3 from rfl)]
theorem heldFlawsX (n : Nat) (hm : n ≤ 1048576) : Ev (fun k => laws_heldFlawS.f k (marksF n) 1) ((4 * n + 1 : Nat) : Int) := by
  have main : ∀ d (i m : Nat), m = 4 * i + 1 → n - i = d → i ≤ n → Ev (fun k => laws_heldFlawS.l0 k (marksF n) (m : Int) (i : Int)) ((4 * n + 1 : Nat) : Int) := by
    have hl := marksF_len n
    intro d
    induction d with
    | zero =>
      intro i m hmi hd hi
      have hil : i = n := by omega
      refine Ev.succ ?_
      simp only [laws_heldFlawS.l0, if_neg (show ¬ ((i : Int) < ((marksF n).length : Int)) by omega)]
      rw [hmi, hil]
      exact Ev.now _
    | succ d ih =>
      intro i m hmi hd hi
      refine Ev.succ ?_
      have hn := marksF_nth n i (by omega)
      rw [← hmi] at hn
      simp only [heldOneF _ _ m i (by omega) hn (by omega) (by omega)]
      exact ih (i + 1) (m + 4) (by omega) (by omega) (by omega)
  exact main n 0 1 rfl (by omega) (by omega)

/-! Valid flaws. -/
def okF (w h : Int) (x : S35) : Bool := decide ((0 ≤ x.f0 ∧ x.f0 ≤ 4) ∧ (0 ≤ x.f1 ∧ x.f1 ≤ h - 1) ∧ (0 ≤ x.f2 ∧ x.f2 ≤ w - 1) ∧ (1 ≤ x.f3 ∧ x.f3 ≤ 9))
def befF (x y : S35) : Bool := decide (x.f1 < y.f1 ∨ x.f1 = y.f1 ∧ (x.f2 < y.f2 ∨ x.f2 = y.f2 ∧ x.f0 < y.f0))
def ascF (l : List S35) (i : Nat) : Bool := decide (i = 0) || befF (nth l (i - 1) z35) (nth l i z35)
def flawAt (w h : Int) (l : List S35) (i : Nat) : Bool := okF w h (nth l i z35) && ascF l i
def goodF (w h : Int) (c : List Int) (l : List S35) : Bool := (goodC w h c && decide (l.length ≤ 12)) && (List.range l.length).all fun i => flawAt w h l i
theorem goodF_at {w h : Int} {c : List Int} {l : List S35} (hg : goodF w h c l = true) : goodC w h c = true ∧ l.length ≤ 12 ∧ ∀ i, i < l.length → flawAt w h l i = true := by
  unfold goodF at hg
  rw [Bool.and_eq_true, Bool.and_eq_true, decide_eq_true_iff, range_all] at hg
  exact ⟨hg.1.1, hg.1.2, hg.2⟩
def orI3 (a b c : Int) : Int := if a ≠ 0 then a else if b ≠ 0 then b else c
theorem or_f3 (a b c : Int) : Ev (fun k => cmp_Or_int.f k [a, b, c]) (orI3 a b c) := by
  have h2 : wrap64 1 = 1 := by unfold wrap64; omega
  have h3 : wrap64 2 = 2 := by unfold wrap64; omega
  have h4 : wrap64 3 = 3 := by unfold wrap64; omega
  have h0 : cmp_Or_int.f 5 [a, b, c] = some (orI3 a b c) := by
    unfold cmp_Or_int.f orI3
    by_cases h : a = 0
    · by_cases h' : b = 0
      · by_cases h'' : c = 0
        · simp [cmp_Or_int.l0, rd, h2, h3, h4, h, h', h'']
        · simp [cmp_Or_int.l0, rd, h2, h3, h4, h, h', h'']
      · simp [cmp_Or_int.l0, rd, h2, h3, h4, h, h']
    · simp [cmp_Or_int.l0, rd, h2, h3, h4, h]
  exact ⟨5, fun k hk => at_rounds (cmp_Or_int.mono [a, b, c]) hk h0⟩
def cmpF (x y : S35) : Int := orI3 (cmpI x.f1 y.f1) (cmpI x.f2 y.f2) (cmpI x.f0 y.f0)
theorem iCompF (x y : S35) : Ev (fun k => impl_Flaw_compare.f k x.f0 x.f1 x.f2 x.f3 y.f0 y.f1 y.f2 y.f3) (cmpF x y) := by
  unfold impl_Flaw_compare.f
  simp only [cmp_f, Option.bind_some]
  exact Ev.bind (or_f3 _ _ _) (Ev.now _)
theorem cmpF_bef (x y : S35) : cmpF x y ≥ 0 ↔ befF x y = false := by
  unfold befF cmpF
  rw [decide_eq_false_iff_not]
  unfold orI3 cmpI
  repeat' split
  all_goals omega
theorem cmpF_eq (x y : S35) : cmpF x y = 0 ↔ befF x y = false ∧ befF y x = false := by
  unfold befF cmpF
  rw [decide_eq_false_iff_not, decide_eq_false_iff_not]
  unfold orI3 cmpI
  repeat' split
  all_goals omega
theorem sBefF (x y : S35) : spec_l22Before.f x.f0 x.f1 x.f2 x.f3 y.f0 y.f1 y.f2 y.f3 = some (befF x y) := by
  unfold spec_l22Before.f befF
  by_cases h1 : x.f1 = y.f1
  · rw [if_pos h1]
    by_cases h2 : x.f2 = y.f2
    · rw [if_pos h2]
      congr 1
      rw [decide_eq_decide]
      omega
    · rw [if_neg h2]
      congr 1
      rw [decide_eq_decide]
      omega
  · rw [if_neg h1]
    congr 1
    rw [decide_eq_decide]
    omega
theorem sFlaw (x : S35) : spec_l22Flaw.f x.f0 x.f1 x.f2 x.f3 = some (decide ((0 ≤ x.f0 ∧ x.f0 ≤ 4) ∧ 1 ≤ x.f3 ∧ x.f3 ≤ 9)) := by
  unfold spec_l22Flaw.f
  simp only [l1In, Option.bind_some]
  by_cases h1 : 0 ≤ x.f0 ∧ x.f0 ≤ 4 <;> simp [h1]
theorem sOne (w h : Int) (c : List Int) (hc : c.length ≤ 1048576) (x : S35) : Ev (fun k => spec_l22One.f k w h c x.f0 x.f1 x.f2 x.f3) (goodC w h c && okF w h x) := by
  unfold spec_l22One.f
  refine Ev.bind (sGood w h c hc) ?_
  cases hg : goodC w h c with
  | false =>
    simp only [Bool.false_eq_true, if_false, Bool.false_and]
    exact Ev.now _
  | true =>
    obtain ⟨h1, h2, _⟩ := goodC_at hg
    simp only [if_true, Bool.true_and, sFlaw, l1In, Option.bind_some]
    rw [w64 (x := h - 1) (by omega), w64 (x := w - 1) (by omega)]
    refine Ev.c ?_
    unfold okF
    by_cases g1 : (0 ≤ x.f0 ∧ x.f0 ≤ 4) ∧ 1 ≤ x.f3 ∧ x.f3 ≤ 9
    · rw [if_pos (decide_eq_true g1)]
      by_cases g2 : 0 ≤ x.f1 ∧ x.f1 ≤ h - 1
      · rw [if_pos (decide_eq_true g2)]
        congr 1
        rw [decide_eq_decide]
        omega
      · rw [if_neg (by rw [decide_eq_false g2]; decide), decide_eq_false (by omega)]
    · rw [if_neg (by rw [decide_eq_false g1]; decide), decide_eq_false (by omega)]
theorem iIsFlaw {w h : Int} {c : List Int} (hg : goodC w h c = true) (x : S35) : impl_Chart_isFlaw.f w h c x.f0 x.f1 x.f2 x.f3 = some (okF w h x) := by
  obtain ⟨h1, h2, _⟩ := goodC_at hg
  unfold impl_Chart_isFlaw.f impl_isFlawKind.f okF
  simp only [iPlace, iIn, Option.bind_some]
  rw [w64 (x := h - 1) (by omega), w64 (x := w - 1) (by omega)]
  by_cases g1 : 0 ≤ x.f0 ∧ x.f0 ≤ 4
  · rw [if_pos (decide_eq_true g1)]
    by_cases g2 : (0 ≤ x.f1 ∧ x.f1 ≤ h - 1) ∧ 0 ≤ x.f2 ∧ x.f2 ≤ w - 1
    · rw [if_pos (decide_eq_true g2)]
      congr 1
      rw [decide_eq_decide]
      omega
    · rw [if_neg (by rw [decide_eq_false g2]; decide), decide_eq_false (by omega)]
  · rw [if_neg (by rw [decide_eq_false g1]; decide), decide_eq_false (by omega)]
theorem sFlaws (w h : Int) (c : List Int) (l : List S35) (hc : c.length ≤ 1048576) (hl : l.length ≤ 1048576) : Ev (fun k => spec_l22Good.f k w h c l) (goodF w h c l) := by
  unfold spec_l22Good.f
  have hs := scanE l.length (fun i => (goodC w h c && okF w h (nth l i z35)) && ascF l i) (goodC w h c && decide (l.length ≤ 12)) false (fun k i => spec_l22Good.l0 k l i w h c) ?hs ?hb ?he
  case hs =>
    intro i r hi ho hr
    rw [Bool.and_eq_true] at ho
    refine Ev.succ ?_
    simp only [spec_l22Good.l0, rd35, if_pos (show (i : Int) < (l.length : Int) by omega), if_pos (show (0 : Int) ≤ (i : Int) by omega)]
    refine Ev.bind (sOne w h c hc _) ?_
    simp only [ho.1, if_true]
    by_cases h0 : i = 0
    · simp only [if_neg (show ¬ (i : Int) > 0 by omega), stepI i (by omega)]
      exact hr
    · have hb : befF (nth l (i - 1) z35) (nth l i z35) = true := by
        have := ho.2
        unfold ascF at this
        rw [Bool.or_eq_true, decide_eq_true_iff] at this
        exact this.resolve_left h0
      simp only [if_pos (show (i : Int) > 0 by omega), predI i (by omega), rd35, if_pos (show (0 : Int) ≤ ((i - 1 : Nat) : Int) by omega), if_pos (show ((i - 1 : Nat) : Int) < (l.length : Int) by omega), sBefF, hb, Option.bind_some, if_true, stepI i (by omega)]
      exact hr
  case hb =>
    intro i hi ho
    refine Ev.succ ?_
    simp only [spec_l22Good.l0, rd35, if_pos (show (i : Int) < (l.length : Int) by omega), if_pos (show (0 : Int) ≤ (i : Int) by omega)]
    refine Ev.bind (sOne w h c hc _) ?_
    by_cases h1 : (goodC w h c && okF w h (nth l i z35)) = true
    · rw [h1, Bool.true_and] at ho
      simp only [h1, if_true]
      have h0 : i ≠ 0 := fun h0 => by unfold ascF at ho; simp [h0] at ho
      have hb : befF (nth l (i - 1) z35) (nth l i z35) = false := by
        unfold ascF at ho
        rw [decide_eq_false h0, Bool.false_or] at ho
        exact ho
      simp only [if_pos (show (i : Int) > 0 by omega), predI i (by omega), rd35, if_pos (show (0 : Int) ≤ ((i - 1 : Nat) : Int) by omega), if_pos (show ((i - 1 : Nat) : Int) < (l.length : Int) by omega), sBefF, hb, Option.bind_some, Bool.false_eq_true, if_false]
      exact Ev.now _
    · simp only [if_neg h1]
      exact Ev.now _
  case he =>
    refine Ev.succ ?_
    simp only [spec_l22Good.l0, if_neg (show ¬ ((l.length : Int) < (l.length : Int)) by omega)]
    refine Ev.bind (sGood w h c hc) ?_
    cases hg : goodC w h c with
    | true =>
      simp only [if_true, Bool.true_and]
      refine Ev.c ?_
      congr 1
      rw [decide_eq_decide]
      omega
    | false =>
      simp only [Bool.false_eq_true, if_false, Bool.false_and]
      exact Ev.now _
  have e : (if ((List.range l.length).all fun i => (goodC w h c && okF w h (nth l i z35)) && ascF l i) = true then (goodC w h c && decide (l.length ≤ 12)) else false) = goodF w h c l := by
    unfold goodF flawAt
    cases hg : goodC w h c with
    | false => simp
    | true =>
      simp only [Bool.true_and]
      generalize (List.range l.length).all _ = b
      cases b <;> simp
  rw [e] at hs
  exact hs
theorem iFlaws (w h : Int) (c : List Int) (l : List S35) (hl : l.length ≤ 1048576) : Ev (fun k => impl_AreFlaws.f k w h c l) (goodF w h c l) := by
  unfold impl_AreFlaws.f
  rw [iChart]
  have j0t : Ev (fun k => impl_AreFlaws.j0 k l true) false := by
    refine Ev.succ ?_
    simp only [impl_AreFlaws.j0, if_true]
    exact Ev.now _
  simp only [Option.bind_some]
  cases hg : goodC w h c with
  | false =>
    simp only [Bool.false_eq_true, if_false]
    have : goodF w h c l = false := by unfold goodF; rw [hg]; simp
    rw [this]
    exact j0t
  | true =>
    simp only [if_true]
    by_cases h8 : l.length ≤ 12
    · simp only [if_neg (show ¬ (l.length : Int) > 12 by omega)]
      unfold impl_Flaw_138__impl_Chart_isFlaw.f
      rw [all_total (p := okF w h) (fun x _ => iIsFlaw hg x), all_nth (p := okF w h) z35]
      simp only [Option.bind_some]
      by_cases ha : ((List.range l.length).all fun i => okF w h (nth l i z35)) = true
      · simp only [ha, Bool.not_true]
        refine Ev.succ ?_
        simp only [impl_AreFlaws.j0, Bool.false_eq_true, if_false]
        have main : ∀ d i, l.length - i = d → 1 ≤ i → Ev (fun k => impl_AreFlaws.l0 k l (i : Int)) ((List.range l.length).all fun j => decide (j < i) || ascF l j) := by
          intro d
          induction d with
          | zero =>
            intro i hd hi
            refine Ev.succ ?_
            simp only [impl_AreFlaws.l0, if_neg (show ¬ ((i : Int) < (l.length : Int)) by omega)]
            rw [show ((List.range l.length).all fun j => decide (j < i) || ascF l j) = true from range_all.2 (fun j hj => by rw [decide_eq_true (by omega)]; rfl)]
            exact Ev.now _
          | succ d ih =>
            intro i hd hi
            refine Ev.succ ?_
            simp only [impl_AreFlaws.l0, rd35, if_pos (show (i : Int) < (l.length : Int) by omega), predI i (by omega), if_pos (show (0 : Int) ≤ ((i - 1 : Nat) : Int) by omega), if_pos (show ((i - 1 : Nat) : Int) < (l.length : Int) by omega), if_pos (show (0 : Int) ≤ (i : Int) by omega)]
            refine Ev.bind (iCompF _ _) ?_
            by_cases hb : befF (nth l (i - 1) z35) (nth l i z35) = true
            · have hn : ¬ cmpF (nth l (i - 1) z35) (nth l i z35) ≥ 0 := fun hh => by rw [(cmpF_bef _ _).1 hh] at hb; cases hb
              simp only [if_neg hn, stepI i (by omega)]
              have e : ((List.range l.length).all fun j => decide (j < i) || ascF l j) = ((List.range l.length).all fun j => decide (j < i + 1) || ascF l j) := by
                rw [Bool.eq_iff_iff, range_all, range_all]
                refine ⟨fun hh j hj => ?_, fun hh j hj => ?_⟩
                · by_cases h1 : j < i + 1
                  · rw [decide_eq_true h1]; rfl
                  · have := hh j hj
                    rw [decide_eq_false (by omega), Bool.false_or] at this
                    rw [this, Bool.or_true]
                · by_cases h1 : j < i
                  · rw [decide_eq_true h1]; rfl
                  · by_cases h2 : j = i
                    · subst h2
                      unfold ascF
                      rw [hb]
                      simp
                    · have := hh j hj
                      rw [decide_eq_false (by omega), Bool.false_or] at this
                      rw [this, Bool.or_true]
              rw [e]
              exact ih (i + 1) (by omega) (by omega)
            · have hb' : befF (nth l (i - 1) z35) (nth l i z35) = false := by simpa using hb
              simp only [if_pos ((cmpF_bef _ _).2 hb')]
              have e : ((List.range l.length).all fun j => decide (j < i) || ascF l j) = false := by
                rw [Bool.eq_false_iff]
                intro hh
                rw [range_all] at hh
                have := hh i (by omega)
                unfold ascF at this
                rw [hb', decide_eq_false (by omega), decide_eq_false (by omega)] at this
                cases this
              rw [e]
              exact Ev.now _
        have hm := main (l.length - 1) 1 rfl (by omega)
        have e : ((List.range l.length).all fun j => decide (j < 1) || ascF l j) = goodF w h c l := by
          unfold goodF
          rw [hg, decide_eq_true h8]
          simp only [Bool.true_and]
          rw [Bool.eq_iff_iff, range_all, range_all]
          rw [range_all] at ha
          refine ⟨fun hh i hi => ?_, fun hh i hi => ?_⟩
          · unfold flawAt
            rw [ha i hi, Bool.true_and]
            by_cases h1 : i < 1
            · unfold ascF; rw [decide_eq_true (show i = 0 by omega)]; rfl
            · have := hh i hi
              rw [decide_eq_false h1, Bool.false_or] at this
              exact this
          · have := hh i hi
            unfold flawAt at this
            rw [Bool.and_eq_true] at this
            rw [this.2, Bool.or_true]
        rw [e] at hm
        exact hm
      · have hf : ((List.range l.length).all fun i => okF w h (nth l i z35)) = false := by simpa using ha
        simp only [hf, Bool.not_false]
        have : goodF w h c l = false := by
          cases hh : goodF w h c l with
          | false => rfl
          | true =>
            refine absurd ?_ ha
            rw [range_all]
            intro i hi
            have := (goodF_at hh).2.2 i hi
            unfold flawAt at this
            rw [Bool.and_eq_true] at this
            exact this.1
        rw [this]
        exact j0t
    · simp only [if_pos (show (l.length : Int) > 12 by omega)]
      have : goodF w h c l = false := by unfold goodF; rw [decide_eq_false h8]; simp
      rw [this]
      exact j0t
end Go.Proofs.Ytkglpfdoefdhdaa.M

namespace Go.Proofs.Ytkglpfdoefdhdaa.WK
open Go Go.RowKit Go.Proofs.Ytkglpfdoefdhdaa.Q Go.Proofs.Ytkglpfdoefdhdaa.M Go.Proofs.YtkglpfdoefdhdaaW.PrintWords Go.Proofs.YtkglpfdoefdhdaaW.SL
open Go.Proofs.YtkglpfdoefdhdaaW.Pl (nth nth_get)
set_option linter.unusedSimpArgs false
set_option linter.unusedVariables false
set_option maxRecDepth 100000
namespace NF
open MO (mixed agg26 sc3)
open FM (fill4)
open IF (enc flat35 ap27 insL insL_len insert_ bsearch agg35 el27)
open AH (cntB cntB_le cntB_lt cntB_at cntB_ge)
theorem sz35 : SzT Try.prog 35 4 := ⟨by kernel_rfl⟩
theorem zero35 : ZeroT Try.prog 35 [.int .i64 0, .int .i64 0, .int .i64 0, .int .i64 0] := ⟨by kernel_rfl⟩
theorem en81 : Ent Try.prog 81 := ⟨enters_of Try.func81 (by kernel_rfl) rfl⟩
theorem en99 : Ent Try.prog 99 := ⟨enters_of Try.func99 (by kernel_rfl) rfl⟩
theorem en101 : Ent Try.prog 101 := ⟨enters_of Try.func101 (by kernel_rfl) rfl⟩
theorem en102 : Ent Try.prog 102 := ⟨enters_of Try.func102 (by kernel_rfl) rfl⟩
theorem outF {w0 w : World} {v : Value} {xs : List S35} {its : List Go.Proofs.YtkglpfdoefdhdaaW.SL.Item} {ps : List (World → Prop)} (h : WS (base w0) w its ps) (hpk : Pick its [.row k35 35 0 v xs]) : k35.R 35 w w0.heap.size (fun _ => True) v xs := by
  obtain ⟨h1, S, ⟨Aa, C1, g1, g2, g3, g4⟩, h3, h4⟩ := h.pick hpk
  have hown : ∀ k, v.ownBlock = some k → w0.heap.size ≤ k := fun k hk => (h3 k ((g3 k).2 (.inl (g1.1.1 k hk)))).resolve_left (fun h => h)
  exact Kd.R_mono (Kd.R_raise (b := 0) (fun _ _ _ _ h => (k35_openM h) ▸ k35_mkM _ _ _ _) g1.1 hown) (fun _ _ => trivial)
/-- Is there a flaw with x's place and kind? -/
def fndF (l : List S35) (x : S35) : Bool := decide ((cntB befF l x) < l.length) && decide (cmpF (nth l (cntB befF l x) z35) x = 0)
/-- The flaws with x noted. -/
def noteL (l : List S35) (x : S35) : List S35 := if fndF l x = true then ((l.take (cntB befF l x) ++ [x]) ++ l.drop ((cntB befF l x) + 1)) else insL l (cntB befF l x) x
theorem fnd_lt {l : List S35} {x : S35} (h : fndF l x = true) : (cntB befF l x) < l.length := by
  unfold fndF at h
  rw [Bool.and_eq_true, decide_eq_true_iff] at h
  exact h.1
theorem note_set {l : List S35} {x : S35} (h : fndF l x = true) : noteL l x = l.set (cntB befF l x) x := by
  unfold noteL
  rw [if_pos h, List.set_eq_take_append_cons_drop, if_pos (fnd_lt h), List.append_assoc]; rfl
theorem note_ins {l : List S35} {x : S35} (h : fndF l x = false) : noteL l x = insL l (cntB befF l x) x := by
  unfold noteL
  rw [h]; rfl
theorem noteL_len (l : List S35) (x : S35) : (noteL l x).length ≤ l.length + 1 := by
  cases h : fndF l x with
  | true => rw [note_set h, List.length_set]; omega
  | false => rw [note_ins h, insL_len x cntB_le]; exact Nat.le_refl _
theorem befF_tr (a b c : S35) (h1 : befF a b = true) (h2 : befF b c = true) : befF a c = true := by
  unfold befF at *
  rw [decide_eq_true_iff] at *
  omega
theorem goodF_asc {wd ht : Int} {cs : List Int} {l : List S35} (hg : goodF wd ht cs l = true) : ∀ i, i + 1 < l.length → befF (nth l i z35) (nth l (i + 1) z35) = true := fun i hi => by
  have h := (goodF_at hg).2.2 (i + 1) hi
  unfold flawAt ascF at h
  simp at h
  exact h.2
theorem cmpF_lt (x y : S35) : cmpF y x < 0 ↔ befF y x = true := by
  have := cmpF_bef y x
  cases h : befF y x with
  | true => rw [h] at this; simp at this ⊢; exact this
  | false => rw [h] at this; simp at this ⊢; exact this
theorem cloneF (l : List S35) (hlb : l.length ≤ 1048576) : impl_Flaw_101.f l = some l := by
  unfold impl_Flaw_101.f
  simp
  omega
theorem bsF {wd ht : Int} {cs : List Int} {l : List S35} (hg : goodF wd ht cs l = true) (x : S35) (hlb : l.length ≤ 1048576) : ∀ (A1 : Option Addr) (c1 : Nat) (w : World), Kd.C k35 w A1 l.length l → l.length ≤ c1 → Calls Try.prog 99 #[.slice A1 l.length c1, .agg #[.int .i64 x.f0, .int .i64 x.f1, .int .i64 x.f2, .int .i64 x.f3], .func (.func 100) #[] #[]] w fun e w' => e = .returned (.tuple #[.int .i64 (((cntB befF l x) : Nat) : Int), .bool (fndF l x)]) ∧ Below w.heap.size w w' := by
  refine fun A1 c1 w hr hc => bsearch l x (fun y => cmpF y x) (cntB befF l x) _ A1 c1 w hr hc hlb cntB_le (fun t ht => (cmpF_lt x _).2 (cntB_lt ht)) (fun t h1 h2 => ?_) rfl (fun y W => ?_)
  · have := cntB_ge befF_tr (goodF_asc hg) h1 h2
    rw [← Int.not_lt, cmpF_lt, this]
    simp
  · obtain ⟨k, hk⟩ := (iCompF y x).rounds
    exact impl_Flaw_compare.calls k y.f0 y.f1 y.f2 y.f3 x.f0 x.f1 x.f2 x.f3 _ W hk
set_option maxHeartbeats 4000000 in
/-- NoteFlaw at flaws that are none. -/
theorem niNo {wd ht : Int} {cs : List Int} {l : List S35} (x : S35) (A0 : Option Addr) (c0 : Nat) (A1 : Option Addr) (c1 : Nat) (w : World) (hrC : Kd.C (Kd.int .i64) w A0 cs.length cs) (hc : cs.length ≤ c0) (hrH : Kd.C k35 w A1 l.length l) (hcl : l.length ≤ c1) (hlb : l.length ≤ 1048576) (hg : goodF wd ht cs l = false) : Calls Try.prog 20 #[.agg #[.int .i64 wd, .int .i64 ht, .slice A0 cs.length c0], .slice A1 l.length c1, .agg #[.int .i64 x.f0, .int .i64 x.f1, .int .i64 x.f2, .int .i64 x.f3]] w fun e w' => ∃ v, e = .returned (.tuple #[v, .bool false]) ∧ k35.R 35 w' w.heap.size (fun _ => True) v [] ∧ Below w.heap.size w w' := by
  obtain ⟨kk, hk⟩ := (iFlaws wd ht cs l hlb).rounds
  rw [hg] at hk
  let Rr : Ending → World → Prop := fun e w' => ∃ v, e = .returned (.tuple #[v, .bool false]) ∧ k35.R 35 w' w.heap.size (fun _ => True) v [] ∧ Below w.heap.size w w'
  refine enterW (args := [.agg #[.int .i64 wd, .int .i64 ht, .slice A0 cs.length c0], .slice A1 l.length c1, .agg #[.int .i64 x.f0, .int .i64 x.f1, .int .i64 x.f2, .int .i64 x.f3]]) [(fun W => Kd.C (Kd.int .i64) W A0 cs.length cs), (fun W => Kd.C k35 W A1 l.length l)] (fun p hp W hb => by
    rcases List.mem_cons.1 hp with rfl | hp
    · exact Kd.C_below hrC hb
    · rw [List.mem_singleton.1 hp]; exact Kd.C_below hrH hb) Try.func20 rfl rfl ?_
  show Cj Try.prog _ _ _ (bodyPost Try.prog Try.f20 Rr) _ _ _
  repeat (first
    | (apply gateO; first
      | refine Jl.yd (Y.mv rfl rfl) rfl rfl rfl ?_
      | refine Jl.yd (Y.asg rfl rfl) rfl rfl rfl ?_
      | refine Jl.yd (Y.ext rfl rfl rfl) rfl rfl rfl ?_
      | refine Jl.yd (Y.pickT rfl rfl rfl) rfl rfl rfl ?_
      | refine Jl.yd (Y.pickF rfl rfl rfl) rfl rfl rfl ?_
      | refine Jl.off rfl rfl rfl ?_
      | refine Jl.yd (Y.cmpF rfl rfl rfl rfl (by omega)) rfl rfl rfl ?_
      | refine Jl.yd (Y.cmpT rfl rfl rfl rfl (by omega)) rfl rfl rfl ?_
      | refine Jl.yd (Y.neqB rfl rfl rfl Try.underlying4) rfl rfl rfl ?_
      | refine Jl.yd (Y.cmp rfl rfl rfl rfl) rfl rfl rfl ?_
      | refine Jl.yd (Y.not rfl rfl) rfl rfl rfl ?_
      | refine Jl.yd (Y.arithN rfl rfl rfl rfl (by omega)) rfl rfl rfl ?_
      | refine Jl.yd (Y.arith64 rfl rfl rfl rfl) rfl rfl rfl ?_
      | refine Jl.yd (Y.loadA rfl rfl agg26 (by repeat (first | exact .head _ | refine .tail _ ?_)) (by rfl)) rfl rfl rfl ?_
      | refine Jl.yd (Y.lenS Try.underlying27 rfl rfl rfl) rfl rfl rfl ?_
      | refine Jl.box (zs := [.int .i64 wd, .int .i64 ht, .slice A0 cs.length c0]) rfl rfl rfl rfl rfl (by rfl) (fun gc => ?_)
      | refine Jl.box (zs := [.int .i64 x.f0, .int .i64 x.f1, .int .i64 x.f2, .int .i64 x.f3]) rfl rfl rfl rfl rfl (by rfl) (fun gx => ?_)
      | refine Jl.call1 (v := .bool false) rfl rfl rfl rfl en81 rfl (fun w hW => by with_reducible exact impl_AreFlaws.calls kk wd ht A0 c0 cs A1 c1 l false w (hW.fact (p := (fun W => Kd.C (Kd.int .i64) W A0 cs.length cs)) (by repeat (first | exact memH | refine memT ?_))) hc (hW.fact (p := (fun W => Kd.C k35 W A1 l.length l)) (by repeat (first | exact memH | refine memT ?_))) hcl hk) ?_
      | refine Jl.splitG rfl rfl (fun h => ?_) (fun h => ?_))
    | (apply gateE; first
      | refine Jl.nil (Ej.go ?_ (fun _ _ h => h))
      | (refine Jl.nil (Ej.back (fun _ _ h => h) (by repeat (first | exact .refl | apply DropTo.tail)) ?_); repeat (first | exact trivial | refine ⟨rfl, ?_⟩)))
    | (apply gateC; first
      | refine Cj.ret rfl (Ej.out2 (P := Try.prog) (fn := Try.f20) (R := Rr) (fun _ _ h => h) rfl rfl rfl (fun w' hW => ⟨_, rfl, Kd.R_nil _ _ _ _ _, hW.below⟩))
      | refine Cj.condF rfl rfl (Cj.skip rfl (Ej.go ?_ (fun _ _ h => h)))
      | (refine Cj.condF rfl rfl (Cj.skip rfl (Ej.back (fun _ _ h => h) (by repeat (first | exact .refl | apply DropTo.tail)) ?_)); repeat (first | exact trivial | refine ⟨rfl, ?_⟩))
      | refine Cj.condF rfl rfl ?_
      | refine Cj.condT rfl rfl ?_
      | refine Cj.exit rfl (Ej.go ?_ (fun _ _ h => h))
      | refine Cj.cond rfl rfl (fun h => ?_) (fun h => ?_)
      | refine Cj.skip rfl (Ej.go ?_ (fun _ _ h => h))
      | (refine Cj.skip rfl (Ej.back (fun _ _ h => h) (by repeat (first | exact .refl | apply DropTo.tail)) ?_); repeat (first | exact trivial | refine ⟨rfl, ?_⟩))
      | refine Cj.seq rfl ?_
      | refine Cj.region rfl ?_))
set_option maxHeartbeats 8000000 in
theorem niSetFalse {wd ht : Int} {cs : List Int} {l : List S35} (x : S35) (A0 : Option Addr) (c0 : Nat) (A1 : Option Addr) (c1 : Nat) (w : World) (hrC : Kd.C (Kd.int .i64) w A0 cs.length cs) (hc : cs.length ≤ c0) (hrH : Kd.C k35 w A1 l.length l) (hcl : l.length ≤ c1) (hlb : l.length ≤ 1048576) (hg : goodF wd ht cs l = true) (hf : fndF l x = true) (hg2 : goodF wd ht cs (noteL l x) = false) : Calls Try.prog 20 #[.agg #[.int .i64 wd, .int .i64 ht, .slice A0 cs.length c0], .slice A1 l.length c1, .agg #[.int .i64 x.f0, .int .i64 x.f1, .int .i64 x.f2, .int .i64 x.f3]] w fun e w' => ∃ v, e = .returned (.tuple #[v, .bool false]) ∧ k35.R 35 w' w.heap.size (fun _ => True) v [] ∧ Below w.heap.size w w' := by
  obtain ⟨kk, hk⟩ := (iFlaws wd ht cs l hlb).rounds
  rw [hg] at hk
  obtain ⟨_, hl8, _⟩ := goodF_at hg
  have hKl : (cntB befF l x) ≤ l.length := cntB_le
  have hbs := bsF hg x hlb
  rw [hf] at hbs
  have hnl := noteL_len l x
  obtain ⟨kk2, hk2⟩ := (iFlaws wd ht cs (noteL l x) (by omega)).rounds
  rw [hg2] at hk2
  have hcn := cloneF l hlb
  have hKlt := fnd_lt hf
  have hRN : noteL l x = l.set (cntB befF l x) x := note_set hf
  have hare : ∀ A c w, Kd.C (Kd.int .i64) w A0 cs.length cs → Kd.C k35 w A (l.set (cntB befF l x) x).length (l.set (cntB befF l x) x) → (l.set (cntB befF l x) x).length ≤ c → Calls Try.prog 81 #[.agg #[.int .i64 wd, .int .i64 ht, .slice A0 cs.length c0], .slice A l.length c] w fun e w' => e = .returned (.bool false) ∧ Below w.heap.size w w' := fun A c w h1 h2 h3 => by
    have e : l.length = (l.set (cntB befF l x) x).length := by rw [List.length_set]
    rw [hRN] at hk2
    rw [e]
    exact impl_AreFlaws.calls kk2 wd ht A0 c0 cs A c (l.set (cntB befF l x) x) false w h1 hc h2 h3 hk2
  let Rr : Ending → World → Prop := fun e w' => ∃ v, e = .returned (.tuple #[v, .bool false]) ∧ k35.R 35 w' w.heap.size (fun _ => True) v [] ∧ Below w.heap.size w w'
  refine enterW (args := [.agg #[.int .i64 wd, .int .i64 ht, .slice A0 cs.length c0], .slice A1 l.length c1, .agg #[.int .i64 x.f0, .int .i64 x.f1, .int .i64 x.f2, .int .i64 x.f3]]) [(fun W => Kd.C (Kd.int .i64) W A0 cs.length cs), (fun W => Kd.C k35 W A1 l.length l)] (fun p hp W hb => by
    rcases List.mem_cons.1 hp with rfl | hp
    · exact Kd.C_below hrC hb
    · rw [List.mem_singleton.1 hp]; exact Kd.C_below hrH hb) Try.func20 rfl rfl ?_
  show Cj Try.prog _ _ _ (bodyPost Try.prog Try.f20 Rr) _ _ _
  repeat (first
    | (apply gateO; first
      | refine Jl.yd (Y.mv rfl rfl) rfl rfl rfl ?_
      | refine Jl.yd (Y.asg rfl rfl) rfl rfl rfl ?_
      | refine Jl.yd (Y.ext rfl rfl rfl) rfl rfl rfl ?_
      | refine Jl.yd (Y.pickT rfl rfl rfl) rfl rfl rfl ?_
      | refine Jl.yd (Y.pickF rfl rfl rfl) rfl rfl rfl ?_
      | refine Jl.off rfl rfl rfl ?_
      | refine Jl.yd (Y.cmpF rfl rfl rfl rfl (by omega)) rfl rfl rfl ?_
      | refine Jl.yd (Y.cmpT rfl rfl rfl rfl (by omega)) rfl rfl rfl ?_
      | refine Jl.yd (Y.neqB rfl rfl rfl Try.underlying4) rfl rfl rfl ?_
      | refine Jl.yd (Y.cmp rfl rfl rfl rfl) rfl rfl rfl ?_
      | refine Jl.yd (Y.not rfl rfl) rfl rfl rfl ?_
      | refine Jl.yd (Y.arithN rfl rfl rfl rfl (by omega)) rfl rfl rfl ?_
      | refine Jl.yd (Y.arith64 rfl rfl rfl rfl) rfl rfl rfl ?_
      | refine Jl.yd (Y.loadA rfl rfl agg26 (by repeat (first | exact .head _ | refine .tail _ ?_)) (by rfl)) rfl rfl rfl ?_
      | refine Jl.yd (Y.lenS Try.underlying27 rfl rfl rfl) rfl rfl rfl ?_
      | refine Jl.box (zs := [.int .i64 wd, .int .i64 ht, .slice A0 cs.length c0]) rfl rfl rfl rfl rfl (by rfl) (fun gc => ?_)
      | refine Jl.box (zs := [.int .i64 x.f0, .int .i64 x.f1, .int .i64 x.f2, .int .i64 x.f3]) rfl rfl rfl rfl rfl (by rfl) (fun gx => ?_)
      | refine Jl.call1 (v := .bool true) rfl rfl rfl rfl en81 rfl (fun w hW => by with_reducible exact impl_AreFlaws.calls kk wd ht A0 c0 cs A1 c1 l true w (hW.fact (p := (fun W => Kd.C (Kd.int .i64) W A0 cs.length cs)) (by repeat (first | exact memH | refine memT ?_))) hc (hW.fact (p := (fun W => Kd.C k35 W A1 l.length l)) (by repeat (first | exact memH | refine memT ?_))) hcl hk) ?_
      | refine Jl.call1 (v := .tuple #[.int .i64 (((cntB befF l x) : Nat) : Int), .bool true]) rfl rfl rfl rfl en99 rfl (fun w hW => by with_reducible exact hbs A1 c1 w (hW.fact (p := (fun W => Kd.C k35 W A1 l.length l)) (by repeat (first | exact memH | refine memT ?_))) hcl) ?_
      | refine Jl.callR 0 (fun v => v) rfl rfl rfl rfl en101 rfl (fun w hW => by with_reducible exact impl_Flaw_101.calls A1 c1 l l w (hW.fact (p := (fun W => Kd.C k35 W A1 l.length l)) (by repeat (first | exact memH | refine memT ?_))) hcl hcn) (fun A2 c2 h2 => ?_)
      | refine Jl.yd (Y.loadA rfl rfl agg35 (by repeat (first | exact .head _ | refine .tail _ ?_)) (by rfl)) rfl rfl rfl ?_
      | refine Jl.splitG rfl rfl (fun h => ?_) (fun h => ?_))
    | (apply gateE; first
      | refine Jl.nil (Ej.go ?_ (fun _ _ h => h))
      | (refine Jl.nil (Ej.back (fun _ _ h => h) (by repeat (first | exact .refl | apply DropTo.tail)) ?_); repeat (first | exact trivial | refine ⟨rfl, ?_⟩)))
    | (apply gateC; first
      | refine Cj.condF rfl rfl (Cj.skip rfl (Ej.go ?_ (fun _ _ h => h)))
      | (refine Cj.condF rfl rfl (Cj.skip rfl (Ej.back (fun _ _ h => h) (by repeat (first | exact .refl | apply DropTo.tail)) ?_)); repeat (first | exact trivial | refine ⟨rfl, ?_⟩))
      | refine Cj.condF rfl rfl ?_
      | refine Cj.condT rfl rfl ?_
      | refine Cj.exit rfl (Ej.go ?_ (fun _ _ h => h))
      | refine Cj.cond rfl rfl (fun h => ?_) (fun h => ?_)
      | refine Cj.skip rfl (Ej.go ?_ (fun _ _ h => h))
      | (refine Cj.skip rfl (Ej.back (fun _ _ h => h) (by repeat (first | exact .refl | apply DropTo.tail)) ?_); repeat (first | exact trivial | refine ⟨rfl, ?_⟩))
      | refine Cj.seq rfl ?_
      | refine Cj.region rfl ?_))
  refine Jl.ws (ι := Nat) (fun h => A2 = some ⟨h, 0, none⟩) (fun _ => [.row k35 35 0 (.slice A2 l.length c2) l, .box gx 35 [.int .i64 x.f0, .int .i64 x.f1, .int .i64 x.f2, .int .i64 x.f3], .box gc 26 [.int .i64 wd, .int .i64 ht, .slice A0 cs.length c0]]) (fun _ => [(fun W => Kd.C (Kd.int .i64) W A0 cs.length cs), (fun W => Kd.C k35 W A1 l.length l)]) (fun w' hW => by
    obtain ⟨S, hR, _⟩ := hW.item (i := .row k35 35 0 (.slice A2 l.length c2) l) memH
    obtain ⟨q0, hl0, hown⟩ := (row_F flat35).1 hR
    rcases hown with ⟨e0, e1⟩ | ⟨g', cap', cur, e0, _⟩
    · omega
    · simp only [Value.slice.injEq] at e0
      exact ⟨g', e0.1, hW⟩) (fun h hA => ?_)
  subst hA
  repeat (first
    | (apply gateO; first
      | refine Jl.yd (Y.mv rfl rfl) rfl rfl rfl ?_
      | refine Jl.yd (Y.asg rfl rfl) rfl rfl rfl ?_
      | refine Jl.yd (Y.ext rfl rfl rfl) rfl rfl rfl ?_
      | refine Jl.yd (Y.pickT rfl rfl rfl) rfl rfl rfl ?_
      | refine Jl.yd (Y.pickF rfl rfl rfl) rfl rfl rfl ?_
      | refine Jl.off rfl rfl rfl ?_
      | refine Jl.yd (Y.cmpF rfl rfl rfl rfl (by omega)) rfl rfl rfl ?_
      | refine Jl.yd (Y.cmpT rfl rfl rfl rfl (by omega)) rfl rfl rfl ?_
      | refine Jl.yd (Y.neqB rfl rfl rfl Try.underlying4) rfl rfl rfl ?_
      | refine Jl.yd (Y.cmp rfl rfl rfl rfl) rfl rfl rfl ?_
      | refine Jl.yd (Y.not rfl rfl) rfl rfl rfl ?_
      | refine Jl.yd (Y.arithN rfl rfl rfl rfl (by omega)) rfl rfl rfl ?_
      | refine Jl.yd (Y.arith64 rfl rfl rfl rfl) rfl rfl rfl ?_
      | refine Jl.yd (Y.loadA rfl rfl agg26 (by repeat (first | exact .head _ | refine .tail _ ?_)) (by rfl)) rfl rfl rfl ?_
      | refine Jl.yd (Y.lenS Try.underlying27 rfl rfl rfl) rfl rfl rfl ?_
      | refine Jl.yd (Y.idx0 rfl rfl rfl el27 (by omega) (by omega)) rfl rfl rfl ?_
      | refine Jl.storeF flat35 x (cntB befF l x) rfl rfl rfl rfl rfl sz35 (by repeat (first | exact .z | apply SetAt.s)) (by omega) rfl ?_
      | refine Jl.yd (Y.loadA rfl rfl agg35 (by repeat (first | exact .head _ | refine .tail _ ?_)) (by rfl)) rfl rfl rfl ?_
      | refine Jl.call1 (v := .bool false) rfl rfl rfl rfl en81 rfl (fun w hW => by with_reducible exact hare _ _ w (hW.fact (p := (fun W => Kd.C (Kd.int .i64) W A0 cs.length cs)) (by repeat (first | exact memH | refine memT ?_))) (hW.rowC (by repeat (first | exact memH | refine memT ?_))) (hW.rowCap (by repeat (first | exact memH | refine memT ?_))).2) ?_
      | refine Jl.splitG rfl rfl (fun h => ?_) (fun h => ?_))
    | (apply gateE; first
      | refine Jl.nil (Ej.go ?_ (fun _ _ h => h))
      | (refine Jl.nil (Ej.back (fun _ _ h => h) (by repeat (first | exact .refl | apply DropTo.tail)) ?_); repeat (first | exact trivial | refine ⟨rfl, ?_⟩)))
    | (apply gateC; first
      | refine Cj.ret rfl (Ej.out2 (P := Try.prog) (fn := Try.f20) (R := Rr) (fun _ _ h => h) rfl rfl rfl (fun w' hW => ⟨_, rfl, Kd.R_nil _ _ _ _ _, hW.below⟩))
      | refine Cj.condF rfl rfl (Cj.skip rfl (Ej.go ?_ (fun _ _ h => h)))
      | (refine Cj.condF rfl rfl (Cj.skip rfl (Ej.back (fun _ _ h => h) (by repeat (first | exact .refl | apply DropTo.tail)) ?_)); repeat (first | exact trivial | refine ⟨rfl, ?_⟩))
      | refine Cj.condF rfl rfl ?_
      | refine Cj.condT rfl rfl ?_
      | refine Cj.exit rfl (Ej.go ?_ (fun _ _ h => h))
      | refine Cj.cond rfl rfl (fun h => ?_) (fun h => ?_)
      | refine Cj.skip rfl (Ej.go ?_ (fun _ _ h => h))
      | (refine Cj.skip rfl (Ej.back (fun _ _ h => h) (by repeat (first | exact .refl | apply DropTo.tail)) ?_); repeat (first | exact trivial | refine ⟨rfl, ?_⟩))
      | refine Cj.seq rfl ?_
      | refine Cj.region rfl ?_))
set_option maxHeartbeats 8000000 in
theorem niSetTrue {wd ht : Int} {cs : List Int} {l : List S35} (x : S35) (A0 : Option Addr) (c0 : Nat) (A1 : Option Addr) (c1 : Nat) (w : World) (hrC : Kd.C (Kd.int .i64) w A0 cs.length cs) (hc : cs.length ≤ c0) (hrH : Kd.C k35 w A1 l.length l) (hcl : l.length ≤ c1) (hlb : l.length ≤ 1048576) (hg : goodF wd ht cs l = true) (hf : fndF l x = true) (hg2 : goodF wd ht cs (noteL l x) = true) : Calls Try.prog 20 #[.agg #[.int .i64 wd, .int .i64 ht, .slice A0 cs.length c0], .slice A1 l.length c1, .agg #[.int .i64 x.f0, .int .i64 x.f1, .int .i64 x.f2, .int .i64 x.f3]] w fun e w' => ∃ v, e = .returned (.tuple #[v, .bool true]) ∧ k35.R 35 w' w.heap.size (fun _ => True) v (noteL l x) ∧ Below w.heap.size w w' := by
  obtain ⟨kk, hk⟩ := (iFlaws wd ht cs l hlb).rounds
  rw [hg] at hk
  obtain ⟨_, hl8, _⟩ := goodF_at hg
  have hKl : (cntB befF l x) ≤ l.length := cntB_le
  have hbs := bsF hg x hlb
  rw [hf] at hbs
  have hnl := noteL_len l x
  obtain ⟨kk2, hk2⟩ := (iFlaws wd ht cs (noteL l x) (by omega)).rounds
  rw [hg2] at hk2
  have hcn := cloneF l hlb
  have hKlt := fnd_lt hf
  have hRN : noteL l x = l.set (cntB befF l x) x := note_set hf
  have hare : ∀ A c w, Kd.C (Kd.int .i64) w A0 cs.length cs → Kd.C k35 w A (l.set (cntB befF l x) x).length (l.set (cntB befF l x) x) → (l.set (cntB befF l x) x).length ≤ c → Calls Try.prog 81 #[.agg #[.int .i64 wd, .int .i64 ht, .slice A0 cs.length c0], .slice A l.length c] w fun e w' => e = .returned (.bool true) ∧ Below w.heap.size w w' := fun A c w h1 h2 h3 => by
    have e : l.length = (l.set (cntB befF l x) x).length := by rw [List.length_set]
    rw [hRN] at hk2
    rw [e]
    exact impl_AreFlaws.calls kk2 wd ht A0 c0 cs A c (l.set (cntB befF l x) x) true w h1 hc h2 h3 hk2
  let Rr : Ending → World → Prop := fun e w' => ∃ v, e = .returned (.tuple #[v, .bool true]) ∧ k35.R 35 w' w.heap.size (fun _ => True) v (noteL l x) ∧ Below w.heap.size w w'
  refine enterW (args := [.agg #[.int .i64 wd, .int .i64 ht, .slice A0 cs.length c0], .slice A1 l.length c1, .agg #[.int .i64 x.f0, .int .i64 x.f1, .int .i64 x.f2, .int .i64 x.f3]]) [(fun W => Kd.C (Kd.int .i64) W A0 cs.length cs), (fun W => Kd.C k35 W A1 l.length l)] (fun p hp W hb => by
    rcases List.mem_cons.1 hp with rfl | hp
    · exact Kd.C_below hrC hb
    · rw [List.mem_singleton.1 hp]; exact Kd.C_below hrH hb) Try.func20 rfl rfl ?_
  show Cj Try.prog _ _ _ (bodyPost Try.prog Try.f20 Rr) _ _ _
  repeat (first
    | (apply gateO; first
      | refine Jl.yd (Y.mv rfl rfl) rfl rfl rfl ?_
      | refine Jl.yd (Y.asg rfl rfl) rfl rfl rfl ?_
      | refine Jl.yd (Y.ext rfl rfl rfl) rfl rfl rfl ?_
      | refine Jl.yd (Y.pickT rfl rfl rfl) rfl rfl rfl ?_
      | refine Jl.yd (Y.pickF rfl rfl rfl) rfl rfl rfl ?_
      | refine Jl.off rfl rfl rfl ?_
      | refine Jl.yd (Y.cmpF rfl rfl rfl rfl (by omega)) rfl rfl rfl ?_
      | refine Jl.yd (Y.cmpT rfl rfl rfl rfl (by omega)) rfl rfl rfl ?_
      | refine Jl.yd (Y.neqB rfl rfl rfl Try.underlying4) rfl rfl rfl ?_
      | refine Jl.yd (Y.cmp rfl rfl rfl rfl) rfl rfl rfl ?_
      | refine Jl.yd (Y.not rfl rfl) rfl rfl rfl ?_
      | refine Jl.yd (Y.arithN rfl rfl rfl rfl (by omega)) rfl rfl rfl ?_
      | refine Jl.yd (Y.arith64 rfl rfl rfl rfl) rfl rfl rfl ?_
      | refine Jl.yd (Y.loadA rfl rfl agg26 (by repeat (first | exact .head _ | refine .tail _ ?_)) (by rfl)) rfl rfl rfl ?_
      | refine Jl.yd (Y.lenS Try.underlying27 rfl rfl rfl) rfl rfl rfl ?_
      | refine Jl.box (zs := [.int .i64 wd, .int .i64 ht, .slice A0 cs.length c0]) rfl rfl rfl rfl rfl (by rfl) (fun gc => ?_)
      | refine Jl.box (zs := [.int .i64 x.f0, .int .i64 x.f1, .int .i64 x.f2, .int .i64 x.f3]) rfl rfl rfl rfl rfl (by rfl) (fun gx => ?_)
      | refine Jl.call1 (v := .bool true) rfl rfl rfl rfl en81 rfl (fun w hW => by with_reducible exact impl_AreFlaws.calls kk wd ht A0 c0 cs A1 c1 l true w (hW.fact (p := (fun W => Kd.C (Kd.int .i64) W A0 cs.length cs)) (by repeat (first | exact memH | refine memT ?_))) hc (hW.fact (p := (fun W => Kd.C k35 W A1 l.length l)) (by repeat (first | exact memH | refine memT ?_))) hcl hk) ?_
      | refine Jl.call1 (v := .tuple #[.int .i64 (((cntB befF l x) : Nat) : Int), .bool true]) rfl rfl rfl rfl en99 rfl (fun w hW => by with_reducible exact hbs A1 c1 w (hW.fact (p := (fun W => Kd.C k35 W A1 l.length l)) (by repeat (first | exact memH | refine memT ?_))) hcl) ?_
      | refine Jl.callR 0 (fun v => v) rfl rfl rfl rfl en101 rfl (fun w hW => by with_reducible exact impl_Flaw_101.calls A1 c1 l l w (hW.fact (p := (fun W => Kd.C k35 W A1 l.length l)) (by repeat (first | exact memH | refine memT ?_))) hcl hcn) (fun A2 c2 h2 => ?_)
      | refine Jl.yd (Y.loadA rfl rfl agg35 (by repeat (first | exact .head _ | refine .tail _ ?_)) (by rfl)) rfl rfl rfl ?_
      | refine Jl.splitG rfl rfl (fun h => ?_) (fun h => ?_))
    | (apply gateE; first
      | refine Jl.nil (Ej.go ?_ (fun _ _ h => h))
      | (refine Jl.nil (Ej.back (fun _ _ h => h) (by repeat (first | exact .refl | apply DropTo.tail)) ?_); repeat (first | exact trivial | refine ⟨rfl, ?_⟩)))
    | (apply gateC; first
      | refine Cj.condF rfl rfl (Cj.skip rfl (Ej.go ?_ (fun _ _ h => h)))
      | (refine Cj.condF rfl rfl (Cj.skip rfl (Ej.back (fun _ _ h => h) (by repeat (first | exact .refl | apply DropTo.tail)) ?_)); repeat (first | exact trivial | refine ⟨rfl, ?_⟩))
      | refine Cj.condF rfl rfl ?_
      | refine Cj.condT rfl rfl ?_
      | refine Cj.exit rfl (Ej.go ?_ (fun _ _ h => h))
      | refine Cj.cond rfl rfl (fun h => ?_) (fun h => ?_)
      | refine Cj.skip rfl (Ej.go ?_ (fun _ _ h => h))
      | (refine Cj.skip rfl (Ej.back (fun _ _ h => h) (by repeat (first | exact .refl | apply DropTo.tail)) ?_); repeat (first | exact trivial | refine ⟨rfl, ?_⟩))
      | refine Cj.seq rfl ?_
      | refine Cj.region rfl ?_))
  refine Jl.ws (ι := Nat) (fun h => A2 = some ⟨h, 0, none⟩) (fun _ => [.row k35 35 0 (.slice A2 l.length c2) l, .box gx 35 [.int .i64 x.f0, .int .i64 x.f1, .int .i64 x.f2, .int .i64 x.f3], .box gc 26 [.int .i64 wd, .int .i64 ht, .slice A0 cs.length c0]]) (fun _ => [(fun W => Kd.C (Kd.int .i64) W A0 cs.length cs), (fun W => Kd.C k35 W A1 l.length l)]) (fun w' hW => by
    obtain ⟨S, hR, _⟩ := hW.item (i := .row k35 35 0 (.slice A2 l.length c2) l) memH
    obtain ⟨q0, hl0, hown⟩ := (row_F flat35).1 hR
    rcases hown with ⟨e0, e1⟩ | ⟨g', cap', cur, e0, _⟩
    · omega
    · simp only [Value.slice.injEq] at e0
      exact ⟨g', e0.1, hW⟩) (fun h hA => ?_)
  subst hA
  repeat (first
    | (apply gateO; first
      | refine Jl.yd (Y.mv rfl rfl) rfl rfl rfl ?_
      | refine Jl.yd (Y.asg rfl rfl) rfl rfl rfl ?_
      | refine Jl.yd (Y.ext rfl rfl rfl) rfl rfl rfl ?_
      | refine Jl.yd (Y.pickT rfl rfl rfl) rfl rfl rfl ?_
      | refine Jl.yd (Y.pickF rfl rfl rfl) rfl rfl rfl ?_
      | refine Jl.off rfl rfl rfl ?_
      | refine Jl.yd (Y.cmpF rfl rfl rfl rfl (by omega)) rfl rfl rfl ?_
      | refine Jl.yd (Y.cmpT rfl rfl rfl rfl (by omega)) rfl rfl rfl ?_
      | refine Jl.yd (Y.neqB rfl rfl rfl Try.underlying4) rfl rfl rfl ?_
      | refine Jl.yd (Y.cmp rfl rfl rfl rfl) rfl rfl rfl ?_
      | refine Jl.yd (Y.not rfl rfl) rfl rfl rfl ?_
      | refine Jl.yd (Y.arithN rfl rfl rfl rfl (by omega)) rfl rfl rfl ?_
      | refine Jl.yd (Y.arith64 rfl rfl rfl rfl) rfl rfl rfl ?_
      | refine Jl.yd (Y.loadA rfl rfl agg26 (by repeat (first | exact .head _ | refine .tail _ ?_)) (by rfl)) rfl rfl rfl ?_
      | refine Jl.yd (Y.lenS Try.underlying27 rfl rfl rfl) rfl rfl rfl ?_
      | refine Jl.yd (Y.idx0 rfl rfl rfl el27 (by omega) (by omega)) rfl rfl rfl ?_
      | refine Jl.storeF flat35 x (cntB befF l x) rfl rfl rfl rfl rfl sz35 (by repeat (first | exact .z | apply SetAt.s)) (by omega) rfl ?_
      | refine Jl.yd (Y.loadA rfl rfl agg35 (by repeat (first | exact .head _ | refine .tail _ ?_)) (by rfl)) rfl rfl rfl ?_
      | refine Jl.call1 (v := .bool true) rfl rfl rfl rfl en81 rfl (fun w hW => by with_reducible exact hare _ _ w (hW.fact (p := (fun W => Kd.C (Kd.int .i64) W A0 cs.length cs)) (by repeat (first | exact memH | refine memT ?_))) (hW.rowC (by repeat (first | exact memH | refine memT ?_))) (hW.rowCap (by repeat (first | exact memH | refine memT ?_))).2) ?_
      | refine Jl.splitG rfl rfl (fun h => ?_) (fun h => ?_))
    | (apply gateE; first
      | refine Jl.nil (Ej.go ?_ (fun _ _ h => h))
      | (refine Jl.nil (Ej.back (fun _ _ h => h) (by repeat (first | exact .refl | apply DropTo.tail)) ?_); repeat (first | exact trivial | refine ⟨rfl, ?_⟩)))
    | (apply gateC; first
      | refine Cj.ret rfl (Ej.out2 (P := Try.prog) (fn := Try.f20) (R := Rr) (fun _ _ h => h) rfl rfl rfl (fun w' hW => ⟨_, rfl, by rw [hRN]; exact outF hW (by repeat (first | exact .nil | refine Pick.cons (by repeat (first | exact .z | apply OutAt.s)) ?_)), hW.below⟩))
      | refine Cj.condF rfl rfl (Cj.skip rfl (Ej.go ?_ (fun _ _ h => h)))
      | (refine Cj.condF rfl rfl (Cj.skip rfl (Ej.back (fun _ _ h => h) (by repeat (first | exact .refl | apply DropTo.tail)) ?_)); repeat (first | exact trivial | refine ⟨rfl, ?_⟩))
      | refine Cj.condF rfl rfl ?_
      | refine Cj.condT rfl rfl ?_
      | refine Cj.exit rfl (Ej.go ?_ (fun _ _ h => h))
      | refine Cj.cond rfl rfl (fun h => ?_) (fun h => ?_)
      | refine Cj.skip rfl (Ej.go ?_ (fun _ _ h => h))
      | (refine Cj.skip rfl (Ej.back (fun _ _ h => h) (by repeat (first | exact .refl | apply DropTo.tail)) ?_); repeat (first | exact trivial | refine ⟨rfl, ?_⟩))
      | refine Cj.seq rfl ?_
      | refine Cj.region rfl ?_))
set_option maxHeartbeats 8000000 in
theorem niInsFalse {wd ht : Int} {cs : List Int} {l : List S35} (x : S35) (A0 : Option Addr) (c0 : Nat) (A1 : Option Addr) (c1 : Nat) (w : World) (hrC : Kd.C (Kd.int .i64) w A0 cs.length cs) (hc : cs.length ≤ c0) (hrH : Kd.C k35 w A1 l.length l) (hcl : l.length ≤ c1) (hlb : l.length ≤ 1048576) (hg : goodF wd ht cs l = true) (hf : fndF l x = false) (hg2 : goodF wd ht cs (noteL l x) = false) : Calls Try.prog 20 #[.agg #[.int .i64 wd, .int .i64 ht, .slice A0 cs.length c0], .slice A1 l.length c1, .agg #[.int .i64 x.f0, .int .i64 x.f1, .int .i64 x.f2, .int .i64 x.f3]] w fun e w' => ∃ v, e = .returned (.tuple #[v, .bool false]) ∧ k35.R 35 w' w.heap.size (fun _ => True) v [] ∧ Below w.heap.size w w' := by
  obtain ⟨kk, hk⟩ := (iFlaws wd ht cs l hlb).rounds
  rw [hg] at hk
  obtain ⟨_, hl8, _⟩ := goodF_at hg
  have hKl : (cntB befF l x) ≤ l.length := cntB_le
  have hbs := bsF hg x hlb
  rw [hf] at hbs
  have hnl := noteL_len l x
  obtain ⟨kk2, hk2⟩ := (iFlaws wd ht cs (noteL l x) (by omega)).rounds
  rw [hg2] at hk2
  have hcn := cloneF l hlb
  have hRN : noteL l x = insL l (cntB befF l x) x := note_ins hf
  have hins : ∀ (A : Option Addr) (c cv gv : Nat) (w : World) (S : Nat → Prop), (Go.Proofs.YtkglpfdoefdhdaaW.SL.Item.row k35 35 0 (.slice A l.length c) l).p w S → (∀ W, Aft S w W → W.heap[gv]? = some (.cells (enc x).toArray 35 (0, 0))) → _ := fun A c cv gv w S hA hV => insert_ l x (cntB befF l x) A c cv gv w S hA hlb hKl hV
  rw [← hRN] at hins
  let Rr : Ending → World → Prop := fun e w' => ∃ v, e = .returned (.tuple #[v, .bool false]) ∧ k35.R 35 w' w.heap.size (fun _ => True) v [] ∧ Below w.heap.size w w'
  refine enterW (args := [.agg #[.int .i64 wd, .int .i64 ht, .slice A0 cs.length c0], .slice A1 l.length c1, .agg #[.int .i64 x.f0, .int .i64 x.f1, .int .i64 x.f2, .int .i64 x.f3]]) [(fun W => Kd.C (Kd.int .i64) W A0 cs.length cs), (fun W => Kd.C k35 W A1 l.length l)] (fun p hp W hb => by
    rcases List.mem_cons.1 hp with rfl | hp
    · exact Kd.C_below hrC hb
    · rw [List.mem_singleton.1 hp]; exact Kd.C_below hrH hb) Try.func20 rfl rfl ?_
  show Cj Try.prog _ _ _ (bodyPost Try.prog Try.f20 Rr) _ _ _
  repeat (first
    | (apply gateO; first
      | refine Jl.yd (Y.mv rfl rfl) rfl rfl rfl ?_
      | refine Jl.yd (Y.asg rfl rfl) rfl rfl rfl ?_
      | refine Jl.yd (Y.ext rfl rfl rfl) rfl rfl rfl ?_
      | refine Jl.yd (Y.pickT rfl rfl rfl) rfl rfl rfl ?_
      | refine Jl.yd (Y.pickF rfl rfl rfl) rfl rfl rfl ?_
      | refine Jl.off rfl rfl rfl ?_
      | refine Jl.yd (Y.cmpF rfl rfl rfl rfl (by omega)) rfl rfl rfl ?_
      | refine Jl.yd (Y.cmpT rfl rfl rfl rfl (by omega)) rfl rfl rfl ?_
      | refine Jl.yd (Y.neqB rfl rfl rfl Try.underlying4) rfl rfl rfl ?_
      | refine Jl.yd (Y.cmp rfl rfl rfl rfl) rfl rfl rfl ?_
      | refine Jl.yd (Y.not rfl rfl) rfl rfl rfl ?_
      | refine Jl.yd (Y.arithN rfl rfl rfl rfl (by omega)) rfl rfl rfl ?_
      | refine Jl.yd (Y.arith64 rfl rfl rfl rfl) rfl rfl rfl ?_
      | refine Jl.yd (Y.loadA rfl rfl agg26 (by repeat (first | exact .head _ | refine .tail _ ?_)) (by rfl)) rfl rfl rfl ?_
      | refine Jl.yd (Y.lenS Try.underlying27 rfl rfl rfl) rfl rfl rfl ?_
      | refine Jl.box (zs := [.int .i64 wd, .int .i64 ht, .slice A0 cs.length c0]) rfl rfl rfl rfl rfl (by rfl) (fun gc => ?_)
      | refine Jl.box (zs := [.int .i64 x.f0, .int .i64 x.f1, .int .i64 x.f2, .int .i64 x.f3]) rfl rfl rfl rfl rfl (by rfl) (fun gx => ?_)
      | refine Jl.call1 (v := .bool true) rfl rfl rfl rfl en81 rfl (fun w hW => by with_reducible exact impl_AreFlaws.calls kk wd ht A0 c0 cs A1 c1 l true w (hW.fact (p := (fun W => Kd.C (Kd.int .i64) W A0 cs.length cs)) (by repeat (first | exact memH | refine memT ?_))) hc (hW.fact (p := (fun W => Kd.C k35 W A1 l.length l)) (by repeat (first | exact memH | refine memT ?_))) hcl hk) ?_
      | refine Jl.call1 (v := .tuple #[.int .i64 (((cntB befF l x) : Nat) : Int), .bool false]) rfl rfl rfl rfl en99 rfl (fun w hW => by with_reducible exact hbs A1 c1 w (hW.fact (p := (fun W => Kd.C k35 W A1 l.length l)) (by repeat (first | exact memH | refine memT ?_))) hcl) ?_
      | refine Jl.callR 0 (fun v => v) rfl rfl rfl rfl en101 rfl (fun w hW => by with_reducible exact impl_Flaw_101.calls A1 c1 l l w (hW.fact (p := (fun W => Kd.C k35 W A1 l.length l)) (by repeat (first | exact memH | refine memT ?_))) hcl hcn) (fun A2 c2 h2 => ?_)
      | refine Jl.yd (Y.loadA rfl rfl agg35 (by repeat (first | exact .head _ | refine .tail _ ?_)) (by rfl)) rfl rfl rfl ?_
      | refine Jl.litS (us := [.int .i64 x.f0, .int .i64 x.f1, .int .i64 x.f2, .int .i64 x.f3]) (zs := [.int .i64 0, .int .i64 0, .int .i64 0, .int .i64 0]) rfl rfl rfl rfl rfl el27 zero35 rfl rfl (fill4 _ _ _ _ _ _ _ _) (fun g9 => ?_)
      | refine Jl.callX (ι := Option Addr × Nat) (fun q => (noteL l x).length ≤ q.2) (fun q => .slice q.1 (noteL l x).length q.2) (.row k35 35 0 (.slice A2 l.length c2) l) (fun q => .row k35 35 0 (.slice q.1 (noteL l x).length q.2) (noteL l x)) rfl rfl rfl rfl en102 rfl (by repeat (first | exact .z | apply OutAt.s)) (fun w A hA hB => (hins A2 c2 1 g9 w A hA (fun W hW => Box_at (hB W hW) (by repeat (first | exact .head _ | refine .tail _ ?_)))).mono (fun e w' hh => by obtain ⟨A', c', g1, g2, g3⟩ := hh; exact ⟨(A', c'), g2, g1, g3⟩)) (fun q hq => ?_)
      | refine Jl.call1 (v := .bool false) rfl rfl rfl rfl en81 rfl (fun w hW => by with_reducible exact impl_AreFlaws.calls kk2 wd ht A0 c0 cs _ _ (noteL l x) false w (hW.fact (p := (fun W => Kd.C (Kd.int .i64) W A0 cs.length cs)) (by repeat (first | exact memH | refine memT ?_))) hc (hW.rowC (by repeat (first | exact memH | refine memT ?_))) (hW.rowCap (by repeat (first | exact memH | refine memT ?_))).2 hk2) ?_
      | refine Jl.splitG rfl rfl (fun h => ?_) (fun h => ?_))
    | (apply gateE; first
      | refine Jl.nil (Ej.go ?_ (fun _ _ h => h))
      | (refine Jl.nil (Ej.back (fun _ _ h => h) (by repeat (first | exact .refl | apply DropTo.tail)) ?_); repeat (first | exact trivial | refine ⟨rfl, ?_⟩)))
    | (apply gateC; first
      | refine Cj.ret rfl (Ej.out2 (P := Try.prog) (fn := Try.f20) (R := Rr) (fun _ _ h => h) rfl rfl rfl (fun w' hW => ⟨_, rfl, Kd.R_nil _ _ _ _ _, hW.below⟩))
      | refine Cj.condF rfl rfl (Cj.skip rfl (Ej.go ?_ (fun _ _ h => h)))
      | (refine Cj.condF rfl rfl (Cj.skip rfl (Ej.back (fun _ _ h => h) (by repeat (first | exact .refl | apply DropTo.tail)) ?_)); repeat (first | exact trivial | refine ⟨rfl, ?_⟩))
      | refine Cj.condF rfl rfl ?_
      | refine Cj.condT rfl rfl ?_
      | refine Cj.exit rfl (Ej.go ?_ (fun _ _ h => h))
      | refine Cj.cond rfl rfl (fun h => ?_) (fun h => ?_)
      | refine Cj.skip rfl (Ej.go ?_ (fun _ _ h => h))
      | (refine Cj.skip rfl (Ej.back (fun _ _ h => h) (by repeat (first | exact .refl | apply DropTo.tail)) ?_); repeat (first | exact trivial | refine ⟨rfl, ?_⟩))
      | refine Cj.seq rfl ?_
      | refine Cj.region rfl ?_))
set_option maxHeartbeats 8000000 in
theorem niInsTrue {wd ht : Int} {cs : List Int} {l : List S35} (x : S35) (A0 : Option Addr) (c0 : Nat) (A1 : Option Addr) (c1 : Nat) (w : World) (hrC : Kd.C (Kd.int .i64) w A0 cs.length cs) (hc : cs.length ≤ c0) (hrH : Kd.C k35 w A1 l.length l) (hcl : l.length ≤ c1) (hlb : l.length ≤ 1048576) (hg : goodF wd ht cs l = true) (hf : fndF l x = false) (hg2 : goodF wd ht cs (noteL l x) = true) : Calls Try.prog 20 #[.agg #[.int .i64 wd, .int .i64 ht, .slice A0 cs.length c0], .slice A1 l.length c1, .agg #[.int .i64 x.f0, .int .i64 x.f1, .int .i64 x.f2, .int .i64 x.f3]] w fun e w' => ∃ v, e = .returned (.tuple #[v, .bool true]) ∧ k35.R 35 w' w.heap.size (fun _ => True) v (noteL l x) ∧ Below w.heap.size w w' := by
  obtain ⟨kk, hk⟩ := (iFlaws wd ht cs l hlb).rounds
  rw [hg] at hk
  obtain ⟨_, hl8, _⟩ := goodF_at hg
  have hKl : (cntB befF l x) ≤ l.length := cntB_le
  have hbs := bsF hg x hlb
  rw [hf] at hbs
  have hnl := noteL_len l x
  obtain ⟨kk2, hk2⟩ := (iFlaws wd ht cs (noteL l x) (by omega)).rounds
  rw [hg2] at hk2
  have hcn := cloneF l hlb
  have hRN : noteL l x = insL l (cntB befF l x) x := note_ins hf
  have hins : ∀ (A : Option Addr) (c cv gv : Nat) (w : World) (S : Nat → Prop), (Go.Proofs.YtkglpfdoefdhdaaW.SL.Item.row k35 35 0 (.slice A l.length c) l).p w S → (∀ W, Aft S w W → W.heap[gv]? = some (.cells (enc x).toArray 35 (0, 0))) → _ := fun A c cv gv w S hA hV => insert_ l x (cntB befF l x) A c cv gv w S hA hlb hKl hV
  rw [← hRN] at hins
  let Rr : Ending → World → Prop := fun e w' => ∃ v, e = .returned (.tuple #[v, .bool true]) ∧ k35.R 35 w' w.heap.size (fun _ => True) v (noteL l x) ∧ Below w.heap.size w w'
  refine enterW (args := [.agg #[.int .i64 wd, .int .i64 ht, .slice A0 cs.length c0], .slice A1 l.length c1, .agg #[.int .i64 x.f0, .int .i64 x.f1, .int .i64 x.f2, .int .i64 x.f3]]) [(fun W => Kd.C (Kd.int .i64) W A0 cs.length cs), (fun W => Kd.C k35 W A1 l.length l)] (fun p hp W hb => by
    rcases List.mem_cons.1 hp with rfl | hp
    · exact Kd.C_below hrC hb
    · rw [List.mem_singleton.1 hp]; exact Kd.C_below hrH hb) Try.func20 rfl rfl ?_
  show Cj Try.prog _ _ _ (bodyPost Try.prog Try.f20 Rr) _ _ _
  repeat (first
    | (apply gateO; first
      | refine Jl.yd (Y.mv rfl rfl) rfl rfl rfl ?_
      | refine Jl.yd (Y.asg rfl rfl) rfl rfl rfl ?_
      | refine Jl.yd (Y.ext rfl rfl rfl) rfl rfl rfl ?_
      | refine Jl.yd (Y.pickT rfl rfl rfl) rfl rfl rfl ?_
      | refine Jl.yd (Y.pickF rfl rfl rfl) rfl rfl rfl ?_
      | refine Jl.off rfl rfl rfl ?_
      | refine Jl.yd (Y.cmpF rfl rfl rfl rfl (by omega)) rfl rfl rfl ?_
      | refine Jl.yd (Y.cmpT rfl rfl rfl rfl (by omega)) rfl rfl rfl ?_
      | refine Jl.yd (Y.neqB rfl rfl rfl Try.underlying4) rfl rfl rfl ?_
      | refine Jl.yd (Y.cmp rfl rfl rfl rfl) rfl rfl rfl ?_
      | refine Jl.yd (Y.not rfl rfl) rfl rfl rfl ?_
      | refine Jl.yd (Y.arithN rfl rfl rfl rfl (by omega)) rfl rfl rfl ?_
      | refine Jl.yd (Y.arith64 rfl rfl rfl rfl) rfl rfl rfl ?_
      | refine Jl.yd (Y.loadA rfl rfl agg26 (by repeat (first | exact .head _ | refine .tail _ ?_)) (by rfl)) rfl rfl rfl ?_
      | refine Jl.yd (Y.lenS Try.underlying27 rfl rfl rfl) rfl rfl rfl ?_
      | refine Jl.box (zs := [.int .i64 wd, .int .i64 ht, .slice A0 cs.length c0]) rfl rfl rfl rfl rfl (by rfl) (fun gc => ?_)
      | refine Jl.box (zs := [.int .i64 x.f0, .int .i64 x.f1, .int .i64 x.f2, .int .i64 x.f3]) rfl rfl rfl rfl rfl (by rfl) (fun gx => ?_)
      | refine Jl.call1 (v := .bool true) rfl rfl rfl rfl en81 rfl (fun w hW => by with_reducible exact impl_AreFlaws.calls kk wd ht A0 c0 cs A1 c1 l true w (hW.fact (p := (fun W => Kd.C (Kd.int .i64) W A0 cs.length cs)) (by repeat (first | exact memH | refine memT ?_))) hc (hW.fact (p := (fun W => Kd.C k35 W A1 l.length l)) (by repeat (first | exact memH | refine memT ?_))) hcl hk) ?_
      | refine Jl.call1 (v := .tuple #[.int .i64 (((cntB befF l x) : Nat) : Int), .bool false]) rfl rfl rfl rfl en99 rfl (fun w hW => by with_reducible exact hbs A1 c1 w (hW.fact (p := (fun W => Kd.C k35 W A1 l.length l)) (by repeat (first | exact memH | refine memT ?_))) hcl) ?_
      | refine Jl.callR 0 (fun v => v) rfl rfl rfl rfl en101 rfl (fun w hW => by with_reducible exact impl_Flaw_101.calls A1 c1 l l w (hW.fact (p := (fun W => Kd.C k35 W A1 l.length l)) (by repeat (first | exact memH | refine memT ?_))) hcl hcn) (fun A2 c2 h2 => ?_)
      | refine Jl.yd (Y.loadA rfl rfl agg35 (by repeat (first | exact .head _ | refine .tail _ ?_)) (by rfl)) rfl rfl rfl ?_
      | refine Jl.litS (us := [.int .i64 x.f0, .int .i64 x.f1, .int .i64 x.f2, .int .i64 x.f3]) (zs := [.int .i64 0, .int .i64 0, .int .i64 0, .int .i64 0]) rfl rfl rfl rfl rfl el27 zero35 rfl rfl (fill4 _ _ _ _ _ _ _ _) (fun g9 => ?_)
      | refine Jl.callX (ι := Option Addr × Nat) (fun q => (noteL l x).length ≤ q.2) (fun q => .slice q.1 (noteL l x).length q.2) (.row k35 35 0 (.slice A2 l.length c2) l) (fun q => .row k35 35 0 (.slice q.1 (noteL l x).length q.2) (noteL l x)) rfl rfl rfl rfl en102 rfl (by repeat (first | exact .z | apply OutAt.s)) (fun w A hA hB => (hins A2 c2 1 g9 w A hA (fun W hW => Box_at (hB W hW) (by repeat (first | exact .head _ | refine .tail _ ?_)))).mono (fun e w' hh => by obtain ⟨A', c', g1, g2, g3⟩ := hh; exact ⟨(A', c'), g2, g1, g3⟩)) (fun q hq => ?_)
      | refine Jl.call1 (v := .bool true) rfl rfl rfl rfl en81 rfl (fun w hW => by with_reducible exact impl_AreFlaws.calls kk2 wd ht A0 c0 cs _ _ (noteL l x) true w (hW.fact (p := (fun W => Kd.C (Kd.int .i64) W A0 cs.length cs)) (by repeat (first | exact memH | refine memT ?_))) hc (hW.rowC (by repeat (first | exact memH | refine memT ?_))) (hW.rowCap (by repeat (first | exact memH | refine memT ?_))).2 hk2) ?_
      | refine Jl.splitG rfl rfl (fun h => ?_) (fun h => ?_))
    | (apply gateE; first
      | refine Jl.nil (Ej.go ?_ (fun _ _ h => h))
      | (refine Jl.nil (Ej.back (fun _ _ h => h) (by repeat (first | exact .refl | apply DropTo.tail)) ?_); repeat (first | exact trivial | refine ⟨rfl, ?_⟩)))
    | (apply gateC; first
      | refine Cj.ret rfl (Ej.out2 (P := Try.prog) (fn := Try.f20) (R := Rr) (fun _ _ h => h) rfl rfl rfl (fun w' hW => ⟨_, rfl, outF hW (by repeat (first | exact .nil | refine Pick.cons (by repeat (first | exact .z | apply OutAt.s)) ?_)), hW.below⟩))
      | refine Cj.condF rfl rfl (Cj.skip rfl (Ej.go ?_ (fun _ _ h => h)))
      | (refine Cj.condF rfl rfl (Cj.skip rfl (Ej.back (fun _ _ h => h) (by repeat (first | exact .refl | apply DropTo.tail)) ?_)); repeat (first | exact trivial | refine ⟨rfl, ?_⟩))
      | refine Cj.condF rfl rfl ?_
      | refine Cj.condT rfl rfl ?_
      | refine Cj.exit rfl (Ej.go ?_ (fun _ _ h => h))
      | refine Cj.cond rfl rfl (fun h => ?_) (fun h => ?_)
      | refine Cj.skip rfl (Ej.go ?_ (fun _ _ h => h))
      | (refine Cj.skip rfl (Ej.back (fun _ _ h => h) (by repeat (first | exact .refl | apply DropTo.tail)) ?_); repeat (first | exact trivial | refine ⟨rfl, ?_⟩))
      | refine Cj.seq rfl ?_
      | refine Cj.region rfl ?_))
/-- NoteFlaw. -/
theorem niAll {wd ht : Int} {cs : List Int} {l : List S35} (x : S35) (A0 : Option Addr) (c0 : Nat) (A1 : Option Addr) (c1 : Nat) (w : World) (hrC : Kd.C (Kd.int .i64) w A0 cs.length cs) (hc : cs.length ≤ c0) (hrH : Kd.C k35 w A1 l.length l) (hcl : l.length ≤ c1) (hlb : l.length ≤ 1048576) (hg : goodF wd ht cs l = true) : Calls Try.prog 20 #[.agg #[.int .i64 wd, .int .i64 ht, .slice A0 cs.length c0], .slice A1 l.length c1, .agg #[.int .i64 x.f0, .int .i64 x.f1, .int .i64 x.f2, .int .i64 x.f3]] w fun e w' => ∃ v, e = .returned (.tuple #[v, .bool (goodF wd ht cs (noteL l x))]) ∧ k35.R 35 w' w.heap.size (fun _ => True) v (if goodF wd ht cs (noteL l x) = true then (noteL l x) else []) ∧ Below w.heap.size w w' := by
  cases hf : fndF l x with
  | true =>
    cases hg2 : goodF wd ht cs (noteL l x) with
    | true => exact niSetTrue x A0 c0 A1 c1 w hrC hc hrH hcl hlb hg hf hg2
    | false => exact niSetFalse x A0 c0 A1 c1 w hrC hc hrH hcl hlb hg hf hg2
  | false =>
    cases hg2 : goodF wd ht cs (noteL l x) with
    | true => exact niInsTrue x A0 c0 A1 c1 w hrC hc hrH hcl hlb hg hf hg2
    | false => exact niInsFalse x A0 c0 A1 c1 w hrC hc hrH hcl hlb hg hf hg2
end NF
end Go.Proofs.Ytkglpfdoefdhdaa.WK

namespace Go.Proofs.Ytkglpfdoefdhdaa.WK
open Go Go.RowKit Go.Proofs.Ytkglpfdoefdhdaa.Q Go.Proofs.Ytkglpfdoefdhdaa.M Go.Proofs.YtkglpfdoefdhdaaW.PrintWords Go.Proofs.YtkglpfdoefdhdaaW.SL
open Go.Proofs.YtkglpfdoefdhdaaW.Pl (nth nth_get)
set_option linter.unusedSimpArgs false
set_option linter.unusedVariables false
set_option maxRecDepth 100000
namespace NF
open MO (mixed agg26 sc3)
open FM (fill4)
open IF (enc flat35 ap27 insL insL_len insert_ bsearch agg35 el27)
open AH (cntB cntB_le cntB_lt cntB_at cntB_ge)
theorem en90 : Ent Try.prog 90 := ⟨enters_of Try.func90 (by kernel_rfl) rfl⟩
theorem en103 : Ent Try.prog 103 := ⟨enters_of Try.func103 (by kernel_rfl) rfl⟩
def nsPost (w : World) (b : Bool) (r : List S35) : Ending → World → Prop := fun e w' => ∃ v, e = .returned (.tuple #[v, .bool b]) ∧ k35.R 35 w' w.heap.size (fun _ => True) v r ∧ Below w.heap.size w w'
theorem befC (x y : S35) {b : Bool} (h : befF x y = b) (w : World) : Calls Try.prog 103 #[.agg #[.int .i64 x.f0, .int .i64 x.f1, .int .i64 x.f2, .int .i64 x.f3], .agg #[.int .i64 y.f0, .int .i64 y.f1, .int .i64 y.f2, .int .i64 y.f3]] w fun e w' => e = .returned (.bool b) ∧ Below w.heap.size w w' := by
  subst h
  exact spec_l22Before.calls x.f0 x.f1 x.f2 x.f3 y.f0 y.f1 y.f2 y.f3 (befF x y) w (sBefF x y)
/-- What follows the flaw that is noted. -/
def restL (l : List S35) (x : S35) : List S35 := if fndF l x = true then (l.drop (cntB befF l x)).drop 1 else l.drop (cntB befF l x)
theorem note_rest (l : List S35) (x : S35) : (([] ++ l.take (cntB befF l x)) ++ [x]) ++ restL l x = noteL l x := by
  unfold restL noteL
  split
  · rw [List.drop_drop]; rfl
  · rfl
set_option maxHeartbeats 4000000 in
/-- The reference's NoteFlaw at flaws that are none. -/
theorem nsNo {wd ht : Int} {cs : List Int} {l : List S35} (x : S35) (A0 : Option Addr) (c0 : Nat) (A1 : Option Addr) (c1 : Nat) (w : World) (hrC : Kd.C (Kd.int .i64) w A0 cs.length cs) (hc : cs.length ≤ c0) (hrH : Kd.C k35 w A1 l.length l) (hcl : l.length ≤ c1) (hlb : l.length ≤ 1048576) (hcb : cs.length ≤ 1048576) (hg : goodF wd ht cs l = false) : Calls Try.prog 21 #[.agg #[.int .i64 wd, .int .i64 ht, .slice A0 cs.length c0], .slice A1 l.length c1, .agg #[.int .i64 x.f0, .int .i64 x.f1, .int .i64 x.f2, .int .i64 x.f3]] w fun e w' => ∃ v, e = .returned (.tuple #[v, .bool false]) ∧ k35.R 35 w' w.heap.size (fun _ => True) v [] ∧ Below w.heap.size w w' := by
  obtain ⟨kk, hk⟩ := (sFlaws wd ht cs l hcb hlb).rounds
  rw [hg] at hk
  let Rr : Ending → World → Prop := fun e w' => ∃ v, e = .returned (.tuple #[v, .bool false]) ∧ k35.R 35 w' w.heap.size (fun _ => True) v [] ∧ Below w.heap.size w w'
  refine enterW (args := [.agg #[.int .i64 wd, .int .i64 ht, .slice A0 cs.length c0], .slice A1 l.length c1, .agg #[.int .i64 x.f0, .int .i64 x.f1, .int .i64 x.f2, .int .i64 x.f3]]) [(fun W => Kd.C (Kd.int .i64) W A0 cs.length cs), (fun W => Kd.C k35 W A1 l.length l)] (fun p hp W hb => by
    rcases List.mem_cons.1 hp with rfl | hp
    · exact Kd.C_below hrC hb
    · rw [List.mem_singleton.1 hp]; exact Kd.C_below hrH hb) Try.func21 rfl rfl ?_
  show Cj Try.prog _ _ _ (bodyPost Try.prog Try.f21 Rr) _ _ _
  repeat (first
    | (apply gateO; first
      | refine Jl.yd (Y.mv rfl rfl) rfl rfl rfl ?_
      | refine Jl.yd (Y.asg rfl rfl) rfl rfl rfl ?_
      | refine Jl.yd (Y.ext rfl rfl rfl) rfl rfl rfl ?_
      | refine Jl.yd (Y.pickT rfl rfl rfl) rfl rfl rfl ?_
      | refine Jl.yd (Y.pickF rfl rfl rfl) rfl rfl rfl ?_
      | refine Jl.off rfl rfl rfl ?_
      | refine Jl.yd (Y.cmpF rfl rfl rfl rfl (by omega)) rfl rfl rfl ?_
      | refine Jl.yd (Y.cmpT rfl rfl rfl rfl (by omega)) rfl rfl rfl ?_
      | refine Jl.yd (Y.neqB rfl rfl rfl Try.underlying4) rfl rfl rfl ?_
      | refine Jl.yd (Y.cmp rfl rfl rfl rfl) rfl rfl rfl ?_
      | refine Jl.yd (Y.not rfl rfl) rfl rfl rfl ?_
      | refine Jl.yd (Y.arithN rfl rfl rfl rfl (by omega)) rfl rfl rfl ?_
      | refine Jl.yd (Y.arith64 rfl rfl rfl rfl) rfl rfl rfl ?_
      | refine Jl.yd (Y.loadA rfl rfl agg26 (by repeat (first | exact .head _ | refine .tail _ ?_)) (by rfl)) rfl rfl rfl ?_
      | refine Jl.yd (Y.lenS Try.underlying27 rfl rfl rfl) rfl rfl rfl ?_
      | refine Jl.box (zs := [.int .i64 wd, .int .i64 ht, .slice A0 cs.length c0]) rfl rfl rfl rfl rfl (by rfl) (fun gc => ?_)
      | refine Jl.box (zs := [.int .i64 x.f0, .int .i64 x.f1, .int .i64 x.f2, .int .i64 x.f3]) rfl rfl rfl rfl rfl (by rfl) (fun gx => ?_)
      | refine Jl.call1 (v := .bool false) rfl rfl rfl rfl en90 rfl (fun w hW => by with_reducible exact spec_l22Good.calls kk wd ht A0 c0 cs A1 c1 l false w (hW.fact (p := (fun W => Kd.C (Kd.int .i64) W A0 cs.length cs)) (by repeat (first | exact memH | refine memT ?_))) hc (hW.fact (p := (fun W => Kd.C k35 W A1 l.length l)) (by repeat (first | exact memH | refine memT ?_))) hcl hk) ?_
      | refine Jl.lit0 k35 rfl rfl rfl rfl el27 (fun gr => ?_)
      | refine Jl.splitG rfl rfl (fun h => ?_) (fun h => ?_))
    | (apply gateE; first
      | refine Jl.nil (Ej.go ?_ (fun _ _ h => h))
      | (refine Jl.nil (Ej.back (fun _ _ h => h) (by repeat (first | exact .refl | apply DropTo.tail)) ?_); repeat (first | exact trivial | refine ⟨rfl, ?_⟩)))
    | (apply gateC; first
      | refine Cj.ret rfl (Ej.out2 (P := Try.prog) (fn := Try.f21) (R := Rr) (fun _ _ h => h) rfl rfl rfl (fun w' hW => ⟨_, rfl, outF hW (by repeat (first | exact .nil | refine Pick.cons (by repeat (first | exact .z | apply OutAt.s)) ?_)), hW.below⟩))
      | refine Cj.condF rfl rfl (Cj.skip rfl (Ej.go ?_ (fun _ _ h => h)))
      | (refine Cj.condF rfl rfl (Cj.skip rfl (Ej.back (fun _ _ h => h) (by repeat (first | exact .refl | apply DropTo.tail)) ?_)); repeat (first | exact trivial | refine ⟨rfl, ?_⟩))
      | refine Cj.condF rfl rfl ?_
      | refine Cj.condT rfl rfl ?_
      | refine Cj.exit rfl (Ej.go ?_ (fun _ _ h => h))
      | refine Cj.cond rfl rfl (fun h => ?_) (fun h => ?_)
      | refine Cj.skip rfl (Ej.go ?_ (fun _ _ h => h))
      | (refine Cj.skip rfl (Ej.back (fun _ _ h => h) (by repeat (first | exact .refl | apply DropTo.tail)) ?_); repeat (first | exact trivial | refine ⟨rfl, ?_⟩))
      | refine Cj.seq rfl ?_
      | refine Cj.region rfl ?_))
set_option maxHeartbeats 16000000 in
/-- The reference's NoteFlaw. -/
theorem nsAll {wd ht : Int} {cs : List Int} {l : List S35} (x : S35) (A0 : Option Addr) (c0 : Nat) (A1 : Option Addr) (c1 : Nat) (w : World) (hrC : Kd.C (Kd.int .i64) w A0 cs.length cs) (hc : cs.length ≤ c0) (hrH : Kd.C k35 w A1 l.length l) (hcl : l.length ≤ c1) (hlb : l.length ≤ 1048576) (hcb : cs.length ≤ 1048576) (hg : goodF wd ht cs l = true) (b : Bool) (hg2 : goodF wd ht cs ((([] ++ l.take (cntB befF l x)) ++ [x]) ++ restL l x) = b) : Calls Try.prog 21 #[.agg #[.int .i64 wd, .int .i64 ht, .slice A0 cs.length c0], .slice A1 l.length c1, .agg #[.int .i64 x.f0, .int .i64 x.f1, .int .i64 x.f2, .int .i64 x.f3]] w (nsPost w b (bif b then ((([] ++ l.take (cntB befF l x)) ++ [x]) ++ restL l x) else [])) := by
  obtain ⟨kk, hk⟩ := (sFlaws wd ht cs l hcb hlb).rounds
  rw [hg] at hk
  obtain ⟨_, hl8, _⟩ := goodF_at hg
  have hKl : (cntB befF l x) ≤ l.length := cntB_le
  have hnl := noteL_len l x
  have hrl : (restL l x).length ≤ l.length := by
    unfold restL
    split <;> simp only [List.length_drop] <;> omega
  have hr3 : ((([] ++ l.take (cntB befF l x)) ++ [x]) ++ restL l x).length ≤ l.length + 1 := by rw [note_rest]; exact hnl
  obtain ⟨kk2, hk2⟩ := (sFlaws wd ht cs ((([] ++ l.take (cntB befF l x)) ++ [x]) ++ restL l x) hcb (by omega)).rounds
  rw [hg2] at hk2
  refine enterW (args := [.agg #[.int .i64 wd, .int .i64 ht, .slice A0 cs.length c0], .slice A1 l.length c1, .agg #[.int .i64 x.f0, .int .i64 x.f1, .int .i64 x.f2, .int .i64 x.f3]]) [(fun W => Kd.C (Kd.int .i64) W A0 cs.length cs), (fun W => Kd.C k35 W A1 l.length l)] (fun p hp W hb => by
    rcases List.mem_cons.1 hp with rfl | hp
    · exact Kd.C_below hrC hb
    · rw [List.mem_singleton.1 hp]; exact Kd.C_below hrH hb) Try.func21 rfl rfl ?_
  show Cj Try.prog _ _ _ (bodyPost Try.prog Try.f21 (nsPost w b (bif b then ((([] ++ l.take (cntB befF l x)) ++ [x]) ++ restL l x) else []))) _ _ _
  repeat (first
    | (apply gateO; first
      | refine Jl.yd (Y.mv rfl rfl) rfl rfl rfl ?_
      | refine Jl.yd (Y.asg rfl rfl) rfl rfl rfl ?_
      | refine Jl.yd (Y.ext rfl rfl rfl) rfl rfl rfl ?_
      | refine Jl.yd (Y.pickT rfl rfl rfl) rfl rfl rfl ?_
      | refine Jl.yd (Y.pickF rfl rfl rfl) rfl rfl rfl ?_
      | refine Jl.off rfl rfl rfl ?_
      | refine Jl.yd (Y.cmpF rfl rfl rfl rfl (by omega)) rfl rfl rfl ?_
      | refine Jl.yd (Y.cmpT rfl rfl rfl rfl (by omega)) rfl rfl rfl ?_
      | refine Jl.yd (Y.neqB rfl rfl rfl Try.underlying4) rfl rfl rfl ?_
      | refine Jl.yd (Y.cmp rfl rfl rfl rfl) rfl rfl rfl ?_
      | refine Jl.yd (Y.not rfl rfl) rfl rfl rfl ?_
      | refine Jl.yd (Y.arithN rfl rfl rfl rfl (by omega)) rfl rfl rfl ?_
      | refine Jl.yd (Y.arith64 rfl rfl rfl rfl) rfl rfl rfl ?_
      | refine Jl.yd (Y.loadA rfl rfl agg26 (by repeat (first | exact .head _ | refine .tail _ ?_)) (by rfl)) rfl rfl rfl ?_
      | refine Jl.yd (Y.lenS Try.underlying27 rfl rfl rfl) rfl rfl rfl ?_
      | refine Jl.box (zs := [.int .i64 wd, .int .i64 ht, .slice A0 cs.length c0]) rfl rfl rfl rfl rfl (by rfl) (fun gc => ?_)
      | refine Jl.box (zs := [.int .i64 x.f0, .int .i64 x.f1, .int .i64 x.f2, .int .i64 x.f3]) rfl rfl rfl rfl rfl (by rfl) (fun gx => ?_)
      | refine Jl.call1 (v := .bool true) rfl rfl rfl rfl en90 rfl (fun w hW => by with_reducible exact spec_l22Good.calls kk wd ht A0 c0 cs A1 c1 l true w (hW.fact (p := (fun W => Kd.C (Kd.int .i64) W A0 cs.length cs)) (by repeat (first | exact memH | refine memT ?_))) hc (hW.fact (p := (fun W => Kd.C k35 W A1 l.length l)) (by repeat (first | exact memH | refine memT ?_))) hcl hk) ?_
      | refine Jl.splitG rfl rfl (fun h => ?_) (fun h => ?_))
    | (apply gateE; first
      | refine Jl.nil (Ej.go ?_ (fun _ _ h => h))
      | (refine Jl.nil (Ej.back (fun _ _ h => h) (by repeat (first | exact .refl | apply DropTo.tail)) ?_); repeat (first | exact trivial | refine ⟨rfl, ?_⟩)))
    | (apply gateC; first
      | refine Cj.condF rfl rfl (Cj.skip rfl (Ej.go ?_ (fun _ _ h => h)))
      | (refine Cj.condF rfl rfl (Cj.skip rfl (Ej.back (fun _ _ h => h) (by repeat (first | exact .refl | apply DropTo.tail)) ?_)); repeat (first | exact trivial | refine ⟨rfl, ?_⟩))
      | refine Cj.condF rfl rfl ?_
      | refine Cj.condT rfl rfl ?_
      | refine Cj.exit rfl (Ej.go ?_ (fun _ _ h => h))
      | refine Cj.cond rfl rfl (fun h => ?_) (fun h => ?_)
      | refine Cj.skip rfl (Ej.go ?_ (fun _ _ h => h))
      | (refine Cj.skip rfl (Ej.back (fun _ _ h => h) (by repeat (first | exact .refl | apply DropTo.tail)) ?_); repeat (first | exact trivial | refine ⟨rfl, ?_⟩))
      | refine Cj.seq rfl ?_
      | refine Cj.region rfl ?_))
  refine Cj.cutThen (ι := Unit) (fun _ => True) (fun _ => [(1, .slice A1 l.length c1), (3, .pointer (some ⟨gc, 0, none⟩)), (5, .pointer (some ⟨gx, 0, none⟩)), (8, .int .i64 (((cntB befF l x) : Nat) : Int))]) (fun _ => [.box gx 35 [.int .i64 x.f0, .int .i64 x.f1, .int .i64 x.f2, .int .i64 x.f3], .box gc 26 [.int .i64 wd, .int .i64 ht, .slice A0 cs.length c0]]) (fun _ => [(fun W => Kd.C (Kd.int .i64) W A0 cs.length cs), (fun W => Kd.C k35 W A1 l.length l)]) ?_ (fun _ _ => Ej.go ?_ (fun _ _ h => h))
  · refine Cj.block rfl ?_
    refine Cj.loopP (ι := Nat) (fun k => k ≤ (cntB befF l x)) (fun k => [(1, .slice A1 l.length c1), (3, .pointer (some ⟨gc, 0, none⟩)), (5, .pointer (some ⟨gx, 0, none⟩)), (8, .int .i64 ((k : Nat) : Int))]) (fun _ => [.box gx 35 [.int .i64 x.f0, .int .i64 x.f1, .int .i64 x.f2, .int .i64 x.f3], .box gc 26 [.int .i64 wd, .int .i64 ht, .slice A0 cs.length c0]]) (fun _ => [(fun W => Kd.C (Kd.int .i64) W A0 cs.length cs), (fun W => Kd.C k35 W A1 l.length l)]) (fun k => (cntB befF l x) - k) rfl 0 (Nat.zero_le _) ⟨rfl, rfl, rfl, rfl, trivial⟩ (by repeat (first | exact .nil | refine Pick.cons (by repeat (first | exact .z | apply OutAt.s)) ?_)) (fun p hp => hp) (fun k hk => ?_)
    by_cases hlt : k < l.length
    · obtain ⟨ad, rfl, _⟩ := hrH.2.2 (by omega)
      obtain ⟨y, hy⟩ : ∃ y, nth l k z35 = y := ⟨_, rfl⟩
      have huy : enc (l.getD ((k : Nat) : Int).toNat z35) = enc y := by
        have hx2 : l.getD k z35 = y := hy
        rw [Int.toNat_natCast, hx2]
      rcases Nat.lt_or_ge k (cntB befF l x) with hkK | hkK
      · have hb : befF y x = true := hy ▸ cntB_lt hkK
        repeat (first
            | (apply gateO; first
              | refine Jl.yd (Y.mv rfl rfl) rfl rfl rfl ?_
              | refine Jl.yd (Y.asg rfl rfl) rfl rfl rfl ?_
              | refine Jl.yd (Y.ext rfl rfl rfl) rfl rfl rfl ?_
              | refine Jl.yd (Y.pickT rfl rfl rfl) rfl rfl rfl ?_
              | refine Jl.yd (Y.pickF rfl rfl rfl) rfl rfl rfl ?_
              | refine Jl.off rfl rfl rfl ?_
              | refine Jl.yd (Y.cmpF rfl rfl rfl rfl (by omega)) rfl rfl rfl ?_
              | refine Jl.yd (Y.cmpT rfl rfl rfl rfl (by omega)) rfl rfl rfl ?_
              | refine Jl.yd (Y.neqB rfl rfl rfl Try.underlying4) rfl rfl rfl ?_
              | refine Jl.yd (Y.cmp rfl rfl rfl rfl) rfl rfl rfl ?_
              | refine Jl.yd (Y.not rfl rfl) rfl rfl rfl ?_
              | refine Jl.yd (Y.arithN rfl rfl rfl rfl (by omega)) rfl rfl rfl ?_
              | refine Jl.yd (Y.arith64 rfl rfl rfl rfl) rfl rfl rfl ?_
              | refine Jl.yd (Y.lenS Try.underlying27 rfl rfl rfl) rfl rfl rfl ?_
              | refine Jl.yd (Y.idx rfl rfl rfl el27 (by omega) (by omega)) rfl rfl rfl ?_
              | refine Jl.yd (Y.loadK z35 [.int .i64 y.f0, .int .i64 y.f1, .int .i64 y.f2, .int .i64 y.f3] rfl rfl agg35 (by repeat (first | exact memH | refine memT ?_)) (((k : Nat) : Int)) (by omega) (by omega) (by rfl) (fun w cs h => (k35_open h).trans huy) (by rfl)) rfl rfl rfl ?_
              | refine Jl.yd (Y.loadA rfl rfl agg35 (by repeat (first | exact .head _ | refine .tail _ ?_)) (by rfl)) rfl rfl rfl ?_
              | refine Jl.call1 (v := .bool true) rfl rfl rfl rfl en103 rfl (fun w hW => by with_reducible exact befC y x hb w) ?_
              | refine Jl.splitG rfl rfl (fun h => ?_) (fun h => ?_))
            | (apply gateE; first
              | refine Jl.nil (Ej.go ?_ (fun _ _ h => h))
              | (refine Jl.nil (Ej.back (fun _ _ h => h) (by repeat (first | exact .refl | apply DropTo.tail)) ?_); repeat (first | exact trivial | refine ⟨rfl, ?_⟩)))
            | (apply gateC; first
              | refine Cj.block rfl ?_
              | refine Cj.regionD rfl (mkD [0, 1, 2, 3, 4, 5, 6, 7, 8, 9, 11] []) [] [0, 1, 2, 3, 4, 5, 6, 7, 8, 9, 10, 11] mixed (by decide +kernel) ?_
              | refine Cj.condF rfl rfl (Cj.skip rfl (Ej.go ?_ (fun _ _ h => h)))
              | (refine Cj.condF rfl rfl (Cj.skip rfl (Ej.back (fun _ _ h => h) (by repeat (first | exact .refl | apply DropTo.tail)) ?_)); repeat (first | exact trivial | refine ⟨rfl, ?_⟩))
              | refine Cj.condF rfl rfl ?_
              | refine Cj.condT rfl rfl ?_
              | refine Cj.exit rfl (Ej.go ?_ (fun _ _ h => h))
              | refine Cj.cond rfl rfl (fun h => ?_) (fun h => ?_)
              | refine Cj.skip rfl (Ej.go ?_ (fun _ _ h => h))
              | (refine Cj.skip rfl (Ej.back (fun _ _ h => h) (by repeat (first | exact .refl | apply DropTo.tail)) ?_); repeat (first | exact trivial | refine ⟨rfl, ?_⟩))
              | refine Cj.seq rfl ?_
              | refine Cj.region rfl ?_))
        refine Jl.nil (Ej.cutP (ι := Nat) _ _ _ _ (fun _ _ h => h) (k + 1) ⟨by (try dsimp only); omega, by (try dsimp only); omega⟩ ⟨rfl, rfl, rfl, rfl, trivial⟩ (by repeat (first | exact .nil | refine Pick.cons (by repeat (first | exact .z | apply OutAt.s)) ?_)) (fun p hp => hp))
      · obtain heq : (cntB befF l x) = k := by omega
        have hb : befF y x = false := by
          have := cntB_at (bef := befF) (z := z35) (l := l) (x := x) (by omega)
          rw [heq, hy] at this
          exact this
        rw [heq]
        repeat (first
            | (apply gateO; first
              | refine Jl.yd (Y.mv rfl rfl) rfl rfl rfl ?_
              | refine Jl.yd (Y.asg rfl rfl) rfl rfl rfl ?_
              | refine Jl.yd (Y.ext rfl rfl rfl) rfl rfl rfl ?_
              | refine Jl.yd (Y.pickT rfl rfl rfl) rfl rfl rfl ?_
              | refine Jl.yd (Y.pickF rfl rfl rfl) rfl rfl rfl ?_
              | refine Jl.off rfl rfl rfl ?_
              | refine Jl.yd (Y.cmpF rfl rfl rfl rfl (by omega)) rfl rfl rfl ?_
              | refine Jl.yd (Y.cmpT rfl rfl rfl rfl (by omega)) rfl rfl rfl ?_
              | refine Jl.yd (Y.neqB rfl rfl rfl Try.underlying4) rfl rfl rfl ?_
              | refine Jl.yd (Y.cmp rfl rfl rfl rfl) rfl rfl rfl ?_
              | refine Jl.yd (Y.not rfl rfl) rfl rfl rfl ?_
              | refine Jl.yd (Y.arithN rfl rfl rfl rfl (by omega)) rfl rfl rfl ?_
              | refine Jl.yd (Y.arith64 rfl rfl rfl rfl) rfl rfl rfl ?_
              | refine Jl.yd (Y.lenS Try.underlying27 rfl rfl rfl) rfl rfl rfl ?_
              | refine Jl.yd (Y.idx rfl rfl rfl el27 (by omega) (by omega)) rfl rfl rfl ?_
              | refine Jl.yd (Y.loadK z35 [.int .i64 y.f0, .int .i64 y.f1, .int .i64 y.f2, .int .i64 y.f3] rfl rfl agg35 (by repeat (first | exact memH | refine memT ?_)) (((k : Nat) : Int)) (by omega) (by omega) (by rfl) (fun w cs h => (k35_open h).trans huy) (by rfl)) rfl rfl rfl ?_
              | refine Jl.yd (Y.loadA rfl rfl agg35 (by repeat (first | exact .head _ | refine .tail _ ?_)) (by rfl)) rfl rfl rfl ?_
              | refine Jl.call1 (v := .bool false) rfl rfl rfl rfl en103 rfl (fun w hW => by with_reducible exact befC y x hb w) ?_
              | refine Jl.splitG rfl rfl (fun h => ?_) (fun h => ?_))
            | (apply gateE; first
              | refine Jl.nil (Ej.go ?_ (fun _ _ h => h))
              | (refine Jl.nil (Ej.back (fun _ _ h => h) (by repeat (first | exact .refl | apply DropTo.tail)) ?_); repeat (first | exact trivial | refine ⟨rfl, ?_⟩)))
            | (apply gateC; first
              | refine Cj.block rfl ?_
              | refine Cj.regionD rfl (mkD [0, 1, 2, 3, 4, 5, 6, 7, 8, 9, 11] []) [] [0, 1, 2, 3, 4, 5, 6, 7, 8, 9, 10, 11] mixed (by decide +kernel) ?_
              | refine Cj.condF rfl rfl (Cj.skip rfl (Ej.go ?_ (fun _ _ h => h)))
              | (refine Cj.condF rfl rfl (Cj.skip rfl (Ej.back (fun _ _ h => h) (by repeat (first | exact .refl | apply DropTo.tail)) ?_)); repeat (first | exact trivial | refine ⟨rfl, ?_⟩))
              | refine Cj.condF rfl rfl ?_
              | refine Cj.condT rfl rfl ?_
              | refine Cj.exit rfl (Ej.go ?_ (fun _ _ h => h))
              | refine Cj.cond rfl rfl (fun h => ?_) (fun h => ?_)
              | refine Cj.skip rfl (Ej.go ?_ (fun _ _ h => h))
              | (refine Cj.skip rfl (Ej.back (fun _ _ h => h) (by repeat (first | exact .refl | apply DropTo.tail)) ?_); repeat (first | exact trivial | refine ⟨rfl, ?_⟩))
              | refine Cj.seq rfl ?_
              | refine Cj.region rfl ?_))
        refine Cj.exit rfl (Ej.cutP (ι := Unit) _ _ _ _ (fun _ _ h => h) () trivial ⟨rfl, rfl, rfl, rfl, trivial⟩ (by repeat (first | exact .nil | refine Pick.cons (by repeat (first | exact .z | apply OutAt.s)) ?_)) (fun p hp => by simp only [List.mem_cons, List.not_mem_nil, or_false] at hp ⊢; rcases hp with rfl | rfl <;> simp))
    · have heq : (cntB befF l x) = k := by omega
      rw [heq]
      repeat (first
          | (apply gateO; first
            | refine Jl.yd (Y.mv rfl rfl) rfl rfl rfl ?_
            | refine Jl.yd (Y.asg rfl rfl) rfl rfl rfl ?_
            | refine Jl.yd (Y.ext rfl rfl rfl) rfl rfl rfl ?_
            | refine Jl.yd (Y.pickT rfl rfl rfl) rfl rfl rfl ?_
            | refine Jl.yd (Y.pickF rfl rfl rfl) rfl rfl rfl ?_
            | refine Jl.off rfl rfl rfl ?_
            | refine Jl.yd (Y.cmpF rfl rfl rfl rfl (by omega)) rfl rfl rfl ?_
            | refine Jl.yd (Y.cmpT rfl rfl rfl rfl (by omega)) rfl rfl rfl ?_
            | refine Jl.yd (Y.neqB rfl rfl rfl Try.underlying4) rfl rfl rfl ?_
            | refine Jl.yd (Y.cmp rfl rfl rfl rfl) rfl rfl rfl ?_
            | refine Jl.yd (Y.not rfl rfl) rfl rfl rfl ?_
            | refine Jl.yd (Y.arithN rfl rfl rfl rfl (by omega)) rfl rfl rfl ?_
            | refine Jl.yd (Y.arith64 rfl rfl rfl rfl) rfl rfl rfl ?_
            | refine Jl.yd (Y.lenS Try.underlying27 rfl rfl rfl) rfl rfl rfl ?_
            | refine Jl.yd (Y.idx rfl rfl rfl el27 (by omega) (by omega)) rfl rfl rfl ?_
            | refine Jl.splitG rfl rfl (fun h => ?_) (fun h => ?_))
          | (apply gateE; first
            | refine Jl.nil (Ej.go ?_ (fun _ _ h => h))
            | (refine Jl.nil (Ej.back (fun _ _ h => h) (by repeat (first | exact .refl | apply DropTo.tail)) ?_); repeat (first | exact trivial | refine ⟨rfl, ?_⟩)))
          | (apply gateC; first
            | refine Cj.block rfl ?_
            | refine Cj.regionD rfl (mkD [0, 1, 2, 3, 4, 5, 6, 7, 8, 9, 11] []) [] [0, 1, 2, 3, 4, 5, 6, 7, 8, 9, 10, 11] mixed (by decide +kernel) ?_
            | refine Cj.condF rfl rfl (Cj.skip rfl (Ej.go ?_ (fun _ _ h => h)))
            | (refine Cj.condF rfl rfl (Cj.skip rfl (Ej.back (fun _ _ h => h) (by repeat (first | exact .refl | apply DropTo.tail)) ?_)); repeat (first | exact trivial | refine ⟨rfl, ?_⟩))
            | refine Cj.condF rfl rfl ?_
            | refine Cj.condT rfl rfl ?_
            | refine Cj.exit rfl (Ej.go ?_ (fun _ _ h => h))
            | refine Cj.cond rfl rfl (fun h => ?_) (fun h => ?_)
            | refine Cj.skip rfl (Ej.go ?_ (fun _ _ h => h))
            | (refine Cj.skip rfl (Ej.back (fun _ _ h => h) (by repeat (first | exact .refl | apply DropTo.tail)) ?_); repeat (first | exact trivial | refine ⟨rfl, ?_⟩))
            | refine Cj.seq rfl ?_
            | refine Cj.region rfl ?_))
      refine Cj.exit rfl (Ej.cutP (ι := Unit) _ _ _ _ (fun _ _ h => h) () trivial ⟨rfl, rfl, rfl, rfl, trivial⟩ (by repeat (first | exact .nil | refine Pick.cons (by repeat (first | exact .z | apply OutAt.s)) ?_)) (fun p hp => by simp only [List.mem_cons, List.not_mem_nil, or_false] at hp ⊢; rcases hp with rfl | rfl <;> simp))
  · refine Cj.seq rfl ?_
    refine Cj.region rfl ?_
    refine Jl.yd (Y.mv rfl rfl) rfl rfl rfl ?_
    refine Jl.yd (Y.mv rfl rfl) rfl rfl rfl ?_
    refine Jl.yd (Y.sliFrom rfl rfl rfl el27 (by omega) (by omega)) rfl rfl rfl ?_
    refine Jl.yd (Y.asg rfl rfl) rfl rfl rfl ?_
    refine Jl.nil (Ej.go ?_ (fun _ _ h => h))
    refine Cj.seq rfl ?_
    refine Cj.cutThen (ι := Option Addr × Nat) (fun _ => True) (fun q => [(1, .slice A1 l.length c1), (3, .pointer (some ⟨gc, 0, none⟩)), (5, .pointer (some ⟨gx, 0, none⟩)), (8, .int .i64 (((cntB befF l x) : Nat) : Int)), (9, .slice q.1 (restL l x).length q.2)]) (fun _ => [.box gx 35 [.int .i64 x.f0, .int .i64 x.f1, .int .i64 x.f2, .int .i64 x.f3], .box gc 26 [.int .i64 wd, .int .i64 ht, .slice A0 cs.length c0]]) (fun q => [(fun W => Kd.C k35 W q.1 (restL l x).length (restL l x)), (fun W => Kd.C (Kd.int .i64) W A0 cs.length cs), (fun W => Kd.C k35 W A1 l.length l)]) ?_ (fun q _ => Ej.go ?_ (fun _ _ h => h))
    · refine Cj.ws (ι := Unit) (fun _ => True) (fun _ => [.box gx 35 [.int .i64 x.f0, .int .i64 x.f1, .int .i64 x.f2, .int .i64 x.f3], .box gc 26 [.int .i64 wd, .int .i64 ht, .slice A0 cs.length c0]]) (fun _ => [(fun W => Kd.C k35 W (if c1 = (((cntB befF l x) : Nat) : Int).toNat then A1 else Option.map (fun y => y.add ((((cntB befF l x) : Nat) : Int).toNat * 4)) A1) (l.drop (cntB befF l x)).length (l.drop (cntB befF l x))), (fun W => Kd.C (Kd.int .i64) W A0 cs.length cs), (fun W => Kd.C k35 W A1 l.length l)]) (fun w' hW => ⟨(), trivial, (hW.both (p := (fun W => Kd.C k35 W A1 l.length l)) (q := (fun W => Kd.C k35 W A1 l.length l)) (memT memH) (memT memH) (fun W h _ => by rw [Int.toNat_natCast]; exact Kd.C_drop h hKl hcl)).sub (fun p hp => hp)⟩) (fun _ _ => ?_)
      have hdl : (l.drop (cntB befF l x)).length = l.length - (cntB befF l x) := by rw [List.length_drop]
      by_cases hKn : (cntB befF l x) < l.length
      · obtain ⟨ad, rfl, _⟩ := hrH.2.2 (by omega)
        have e : (if c1 = (((cntB befF l x) : Nat) : Int).toNat then some ad else Option.map (fun y => y.add ((((cntB befF l x) : Nat) : Int).toNat * 4)) (some ad)) = some (ad.add ((cntB befF l x) * 4)) := by
          rw [Int.toNat_natCast, if_neg (by omega)]; rfl
        rw [e]
        obtain ⟨y, hy⟩ : ∃ y, nth l (cntB befF l x) z35 = y := ⟨_, rfl⟩
        have hyd : (l.drop (cntB befF l x)).getD 0 z35 = y := by
          rw [← hy]
          unfold nth
          simp [List.getD_eq_getElem?_getD]
        have huy2 : enc ((l.drop (cntB befF l x)).getD (0 : Int).toNat z35) = enc y := by
          rw [show (0 : Int).toNat = 0 from rfl, hyd]
        have hyx : befF y x = false := hy ▸ cntB_at hKn
        cases hf : fndF l x with
        | true =>
          have hb : befF x y = false := by
            unfold fndF at hf
            rw [Bool.and_eq_true, decide_eq_true_iff, decide_eq_true_iff, hy] at hf
            exact ((cmpF_eq y x).1 hf.2).2
          have hre : restL l x = (l.drop (cntB befF l x)).drop 1 := by unfold restL; rw [if_pos hf]
          rw [hre]
          refine Cj.ws (ι := Unit) (fun _ => True) (fun _ => [.box gx 35 [.int .i64 x.f0, .int .i64 x.f1, .int .i64 x.f2, .int .i64 x.f3], .box gc 26 [.int .i64 wd, .int .i64 ht, .slice A0 cs.length c0]]) (fun _ => [(fun W => Kd.C k35 W (if c1 - (cntB befF l x) = 1 then some (ad.add ((cntB befF l x) * 4)) else Option.map (fun y => y.add (1 * 4)) (some (ad.add ((cntB befF l x) * 4)))) ((l.drop (cntB befF l x)).drop 1).length ((l.drop (cntB befF l x)).drop 1)), (fun W => Kd.C k35 W (some (ad.add ((cntB befF l x) * 4))) (l.drop (cntB befF l x)).length (l.drop (cntB befF l x))), (fun W => Kd.C (Kd.int .i64) W A0 cs.length cs), (fun W => Kd.C k35 W (some ad) l.length l)]) (fun w' hW => ⟨(), trivial, (hW.both (p := (fun W => Kd.C k35 W (some (ad.add ((cntB befF l x) * 4))) (l.drop (cntB befF l x)).length (l.drop (cntB befF l x)))) (q := (fun W => Kd.C (Kd.int .i64) W A0 cs.length cs)) (r := (fun W => Kd.C k35 W (if c1 - (cntB befF l x) = 1 then some (ad.add ((cntB befF l x) * 4)) else Option.map (fun y => y.add (1 * 4)) (some (ad.add ((cntB befF l x) * 4)))) ((l.drop (cntB befF l x)).drop 1).length ((l.drop (cntB befF l x)).drop 1))) memH (memT memH) (fun W h _ => Kd.C_drop (m := 1) (c := c1 - (cntB befF l x)) h (by omega) (by omega)))⟩) (fun _ _ => ?_)
          repeat (first
              | (apply gateO; first
                | refine Jl.yd (Y.mv rfl rfl) rfl rfl rfl ?_
                | refine Jl.yd (Y.asg rfl rfl) rfl rfl rfl ?_
                | refine Jl.yd (Y.ext rfl rfl rfl) rfl rfl rfl ?_
                | refine Jl.yd (Y.pickT rfl rfl rfl) rfl rfl rfl ?_
                | refine Jl.yd (Y.pickF rfl rfl rfl) rfl rfl rfl ?_
                | refine Jl.off rfl rfl rfl ?_
                | refine Jl.yd (Y.cmpF rfl rfl rfl rfl (by omega)) rfl rfl rfl ?_
                | refine Jl.yd (Y.cmpT rfl rfl rfl rfl (by omega)) rfl rfl rfl ?_
                | refine Jl.yd (Y.neqB rfl rfl rfl Try.underlying4) rfl rfl rfl ?_
                | refine Jl.yd (Y.cmp rfl rfl rfl rfl) rfl rfl rfl ?_
                | refine Jl.yd (Y.not rfl rfl) rfl rfl rfl ?_
                | refine Jl.yd (Y.arithN rfl rfl rfl rfl (by omega)) rfl rfl rfl ?_
                | refine Jl.yd (Y.arith64 rfl rfl rfl rfl) rfl rfl rfl ?_
                | refine Jl.yd (Y.lenS Try.underlying27 rfl rfl rfl) rfl rfl rfl ?_
                | refine Jl.yd (Y.idx rfl rfl rfl el27 (by omega) (by omega)) rfl rfl rfl ?_
                | refine Jl.yd (Y.loadK z35 [.int .i64 y.f0, .int .i64 y.f1, .int .i64 y.f2, .int .i64 y.f3] rfl rfl agg35 (by repeat (first | exact memH | refine memT ?_)) (0) (by omega) (by omega) (by rfl) (fun w cs h => (k35_open h).trans huy2) (by rfl)) rfl rfl rfl ?_
                | refine Jl.yd (Y.loadA rfl rfl agg35 (by repeat (first | exact .head _ | refine .tail _ ?_)) (by rfl)) rfl rfl rfl ?_
                | refine Jl.call1 (v := .bool false) rfl rfl rfl rfl en103 rfl (fun w hW => by with_reducible exact befC x y hb w) ?_
                | refine Jl.yd (Y.sliFrom rfl rfl rfl el27 (by omega) (by omega)) rfl rfl rfl ?_
                | refine Jl.splitG rfl rfl (fun h => ?_) (fun h => ?_))
              | (apply gateE; first
                | refine Jl.nil (Ej.go ?_ (fun _ _ h => h))
                | (refine Jl.nil (Ej.back (fun _ _ h => h) (by repeat (first | exact .refl | apply DropTo.tail)) ?_); repeat (first | exact trivial | refine ⟨rfl, ?_⟩)))
              | (apply gateC; first
                | refine Cj.regionD rfl (mkD [0, 1, 2, 3, 4, 5, 6, 7, 9, 10] []) [] [0, 1, 2, 3, 4, 5, 6, 7, 8, 9, 10] mixed (by decide +kernel) ?_
                | refine Cj.condF rfl rfl (Cj.skip rfl (Ej.go ?_ (fun _ _ h => h)))
                | (refine Cj.condF rfl rfl (Cj.skip rfl (Ej.back (fun _ _ h => h) (by repeat (first | exact .refl | apply DropTo.tail)) ?_)); repeat (first | exact trivial | refine ⟨rfl, ?_⟩))
                | refine Cj.condF rfl rfl ?_
                | refine Cj.condT rfl rfl ?_
                | refine Cj.exit rfl (Ej.go ?_ (fun _ _ h => h))
                | refine Cj.cond rfl rfl (fun h => ?_) (fun h => ?_)
                | refine Cj.skip rfl (Ej.go ?_ (fun _ _ h => h))
                | (refine Cj.skip rfl (Ej.back (fun _ _ h => h) (by repeat (first | exact .refl | apply DropTo.tail)) ?_); repeat (first | exact trivial | refine ⟨rfl, ?_⟩))
                | refine Cj.seq rfl ?_
                | refine Cj.region rfl ?_))
          refine Jl.nil (Ej.cutP (ι := Option Addr × Nat) _ _ _ _ (fun _ _ h => h) (_, _) trivial ⟨rfl, rfl, rfl, rfl, congrArg some (by rw [List.length_drop, List.length_drop]; rfl), trivial⟩ (by repeat (first | exact .nil | refine Pick.cons (by repeat (first | exact .z | apply OutAt.s)) ?_)) (fun p hp => (List.mem_cons.1 hp).elim (fun e => by subst e; exact memH) (fun hp => memT (memT hp))))
        | false =>
          have hb : befF x y = true := by
            unfold fndF at hf
            rw [decide_eq_true hKn, Bool.true_and, decide_eq_false_iff_not, hy, cmpF_eq] at hf
            cases h : befF x y with
            | true => rfl
            | false => exact absurd ⟨hyx, h⟩ hf
          have hre : restL l x = l.drop (cntB befF l x) := by unfold restL; rw [if_neg (by rw [hf]; decide)]
          rw [hre]
          repeat (first
              | (apply gateO; first
                | refine Jl.yd (Y.mv rfl rfl) rfl rfl rfl ?_
                | refine Jl.yd (Y.asg rfl rfl) rfl rfl rfl ?_
                | refine Jl.yd (Y.ext rfl rfl rfl) rfl rfl rfl ?_
                | refine Jl.yd (Y.pickT rfl rfl rfl) rfl rfl rfl ?_
                | refine Jl.yd (Y.pickF rfl rfl rfl) rfl rfl rfl ?_
                | refine Jl.off rfl rfl rfl ?_
                | refine Jl.yd (Y.cmpF rfl rfl rfl rfl (by omega)) rfl rfl rfl ?_
                | refine Jl.yd (Y.cmpT rfl rfl rfl rfl (by omega)) rfl rfl rfl ?_
                | refine Jl.yd (Y.neqB rfl rfl rfl Try.underlying4) rfl rfl rfl ?_
                | refine Jl.yd (Y.cmp rfl rfl rfl rfl) rfl rfl rfl ?_
                | refine Jl.yd (Y.not rfl rfl) rfl rfl rfl ?_
                | refine Jl.yd (Y.arithN rfl rfl rfl rfl (by omega)) rfl rfl rfl ?_
                | refine Jl.yd (Y.arith64 rfl rfl rfl rfl) rfl rfl rfl ?_
                | refine Jl.yd (Y.lenS Try.underlying27 rfl rfl rfl) rfl rfl rfl ?_
                | refine Jl.yd (Y.idx rfl rfl rfl el27 (by omega) (by omega)) rfl rfl rfl ?_
                | refine Jl.yd (Y.loadK z35 [.int .i64 y.f0, .int .i64 y.f1, .int .i64 y.f2, .int .i64 y.f3] rfl rfl agg35 (by repeat (first | exact memH | refine memT ?_)) (0) (by omega) (by omega) (by rfl) (fun w cs h => (k35_open h).trans huy2) (by rfl)) rfl rfl rfl ?_
                | refine Jl.yd (Y.loadA rfl rfl agg35 (by repeat (first | exact .head _ | refine .tail _ ?_)) (by rfl)) rfl rfl rfl ?_
                | refine Jl.call1 (v := .bool true) rfl rfl rfl rfl en103 rfl (fun w hW => by with_reducible exact befC x y hb w) ?_
                | refine Jl.yd (Y.sliFrom rfl rfl rfl el27 (by omega) (by omega)) rfl rfl rfl ?_
                | refine Jl.splitG rfl rfl (fun h => ?_) (fun h => ?_))
              | (apply gateE; first
                | refine Jl.nil (Ej.go ?_ (fun _ _ h => h))
                | (refine Jl.nil (Ej.back (fun _ _ h => h) (by repeat (first | exact .refl | apply DropTo.tail)) ?_); repeat (first | exact trivial | refine ⟨rfl, ?_⟩)))
              | (apply gateC; first
                | refine Cj.regionD rfl (mkD [0, 1, 2, 3, 4, 5, 6, 7, 9, 10] []) [] [0, 1, 2, 3, 4, 5, 6, 7, 8, 9, 10] mixed (by decide +kernel) ?_
                | refine Cj.condF rfl rfl (Cj.skip rfl (Ej.go ?_ (fun _ _ h => h)))
                | (refine Cj.condF rfl rfl (Cj.skip rfl (Ej.back (fun _ _ h => h) (by repeat (first | exact .refl | apply DropTo.tail)) ?_)); repeat (first | exact trivial | refine ⟨rfl, ?_⟩))
                | refine Cj.condF rfl rfl ?_
                | refine Cj.condT rfl rfl ?_
                | refine Cj.exit rfl (Ej.go ?_ (fun _ _ h => h))
                | refine Cj.cond rfl rfl (fun h => ?_) (fun h => ?_)
                | refine Cj.skip rfl (Ej.go ?_ (fun _ _ h => h))
                | (refine Cj.skip rfl (Ej.back (fun _ _ h => h) (by repeat (first | exact .refl | apply DropTo.tail)) ?_); repeat (first | exact trivial | refine ⟨rfl, ?_⟩))
                | refine Cj.seq rfl ?_
                | refine Cj.region rfl ?_))
          refine Cj.skip rfl (Ej.cutP (ι := Option Addr × Nat) _ _ _ _ (fun _ _ h => h) (_, _) trivial ⟨rfl, rfl, rfl, rfl, congrArg some (by rw [List.length_drop]; rfl), trivial⟩ (by repeat (first | exact .nil | refine Pick.cons (by repeat (first | exact .z | apply OutAt.s)) ?_)) (fun p hp => hp))
      · have hf : fndF l x = false := by unfold fndF; rw [decide_eq_false hKn]; rfl
        have hre : restL l x = l.drop (cntB befF l x) := by unfold restL; rw [if_neg (by rw [hf]; decide)]
        rw [hre]
        repeat (first
            | (apply gateO; first
              | refine Jl.yd (Y.mv rfl rfl) rfl rfl rfl ?_
              | refine Jl.yd (Y.asg rfl rfl) rfl rfl rfl ?_
              | refine Jl.yd (Y.ext rfl rfl rfl) rfl rfl rfl ?_
              | refine Jl.yd (Y.pickT rfl rfl rfl) rfl rfl rfl ?_
              | refine Jl.yd (Y.pickF rfl rfl rfl) rfl rfl rfl ?_
              | refine Jl.off rfl rfl rfl ?_
              | refine Jl.yd (Y.cmpF rfl rfl rfl rfl (by omega)) rfl rfl rfl ?_
              | refine Jl.yd (Y.cmpT rfl rfl rfl rfl (by omega)) rfl rfl rfl ?_
              | refine Jl.yd (Y.neqB rfl rfl rfl Try.underlying4) rfl rfl rfl ?_
              | refine Jl.yd (Y.cmp rfl rfl rfl rfl) rfl rfl rfl ?_
              | refine Jl.yd (Y.not rfl rfl) rfl rfl rfl ?_
              | refine Jl.yd (Y.arithN rfl rfl rfl rfl (by omega)) rfl rfl rfl ?_
              | refine Jl.yd (Y.arith64 rfl rfl rfl rfl) rfl rfl rfl ?_
              | refine Jl.yd (Y.lenS Try.underlying27 rfl rfl rfl) rfl rfl rfl ?_
              | refine Jl.yd (Y.idx rfl rfl rfl el27 (by omega) (by omega)) rfl rfl rfl ?_
              | refine Jl.yd (Y.loadK z35 [.int .i64 y.f0, .int .i64 y.f1, .int .i64 y.f2, .int .i64 y.f3] rfl rfl agg35 (by repeat (first | exact memH | refine memT ?_)) (0) (by omega) (by omega) (by rfl) (fun w cs h => (k35_open h).trans huy2) (by rfl)) rfl rfl rfl ?_
              | refine Jl.yd (Y.loadA rfl rfl agg35 (by repeat (first | exact .head _ | refine .tail _ ?_)) (by rfl)) rfl rfl rfl ?_
              | refine Jl.call1 (v := .bool true) rfl rfl rfl rfl en103x rfl (fun w hW => by with_reducible exact befC x y absurd w) ?_
              | refine Jl.yd (Y.sliFrom rfl rfl rfl el27 (by omega) (by omega)) rfl rfl rfl ?_
              | refine Jl.splitG rfl rfl (fun h => ?_) (fun h => ?_))
            | (apply gateE; first
              | refine Jl.nil (Ej.go ?_ (fun _ _ h => h))
              | (refine Jl.nil (Ej.back (fun _ _ h => h) (by repeat (first | exact .refl | apply DropTo.tail)) ?_); repeat (first | exact trivial | refine ⟨rfl, ?_⟩)))
            | (apply gateC; first
              | refine Cj.regionD rfl (mkD [0, 1, 2, 3, 4, 5, 6, 7, 9, 10] []) [] [0, 1, 2, 3, 4, 5, 6, 7, 8, 9, 10] mixed (by decide +kernel) ?_
              | refine Cj.condF rfl rfl (Cj.skip rfl (Ej.go ?_ (fun _ _ h => h)))
              | (refine Cj.condF rfl rfl (Cj.skip rfl (Ej.back (fun _ _ h => h) (by repeat (first | exact .refl | apply DropTo.tail)) ?_)); repeat (first | exact trivial | refine ⟨rfl, ?_⟩))
              | refine Cj.condF rfl rfl ?_
              | refine Cj.condT rfl rfl ?_
              | refine Cj.exit rfl (Ej.go ?_ (fun _ _ h => h))
              | refine Cj.cond rfl rfl (fun h => ?_) (fun h => ?_)
              | refine Cj.skip rfl (Ej.go ?_ (fun _ _ h => h))
              | (refine Cj.skip rfl (Ej.back (fun _ _ h => h) (by repeat (first | exact .refl | apply DropTo.tail)) ?_); repeat (first | exact trivial | refine ⟨rfl, ?_⟩))
              | refine Cj.seq rfl ?_
              | refine Cj.region rfl ?_))
        refine Cj.skip rfl (Ej.cutP (ι := Option Addr × Nat) _ _ _ _ (fun _ _ h => h) (_, _) trivial ⟨rfl, rfl, rfl, rfl, congrArg some (by rw [List.length_drop]; rfl), trivial⟩ (by repeat (first | exact .nil | refine Pick.cons (by repeat (first | exact .z | apply OutAt.s)) ?_)) (fun p hp => hp))
    · refine Cj.seq rfl ?_
      refine Cj.cutThen (ι := Option Addr × Nat) (fun q => ((([] ++ l.take (cntB befF l x)) ++ [x]) ++ restL l x).length ≤ q.2) (fun q => [(3, .pointer (some ⟨gc, 0, none⟩)), (10, .slice q.1 ((([] ++ l.take (cntB befF l x)) ++ [x]) ++ restL l x).length q.2)]) (fun q => [.row k35 35 0 (.slice q.1 ((([] ++ l.take (cntB befF l x)) ++ [x]) ++ restL l x).length q.2) ((([] ++ l.take (cntB befF l x)) ++ [x]) ++ restL l x), .box gc 26 [.int .i64 wd, .int .i64 ht, .slice A0 cs.length c0]]) (fun _ => [(fun W => Kd.C (Kd.int .i64) W A0 cs.length cs)]) ?_ (fun q hq => Ej.go ?_ (fun _ _ h => h))
      · refine Cj.ws (ι := Unit) (fun _ => True) (fun _ => [.box gx 35 [.int .i64 x.f0, .int .i64 x.f1, .int .i64 x.f2, .int .i64 x.f3], .box gc 26 [.int .i64 wd, .int .i64 ht, .slice A0 cs.length c0]]) (fun _ => [(fun W => Kd.C k35 W A1 (l.take (cntB befF l x)).length (l.take (cntB befF l x))), (fun W => Kd.C k35 W q.1 (restL l x).length (restL l x)), (fun W => Kd.C (Kd.int .i64) W A0 cs.length cs), (fun W => Kd.C k35 W A1 l.length l)]) (fun w' hW => ⟨(), trivial, hW.both (p := (fun W => Kd.C k35 W A1 l.length l)) (q := (fun W => Kd.C k35 W A1 l.length l)) (r := (fun W => Kd.C k35 W A1 (l.take (cntB befF l x)).length (l.take (cntB befF l x)))) (memT (memT memH)) (memT (memT memH)) (fun W h _ => Kd.C_take h hKl)⟩) (fun _ _ => ?_)
        skip
        refine Cj.regionJ rfl [0, 4, 5, 6, 7, 9] mixed ?_
        refine Jw.take 1 rfl (by decide +kernel) (by intro c a d v w h; cases d <;> exact h) (fun w => Y.mv rfl rfl) rfl rfl rfl ?_
        refine Jw.take 2 rfl (by decide +kernel) (by intro c a d v w h; cases d <;> exact h) (fun w => Y.mv rfl rfl) rfl rfl rfl ?_
        refine Jw.take 8 rfl (by decide +kernel) (by intro c a d v w h; cases d <;> exact h) (fun w => Y.mv rfl rfl) rfl rfl rfl ?_
        refine Jw.take 3 rfl (by decide +kernel) (by intro c a d v w h; cases d <;> exact h) (fun w => Y.sliTo rfl rfl rfl el27 (by omega) (by omega)) rfl rfl rfl ?_
        refine Jw.br2 (mkD [] [0]) 0 5 rfl rfl (by decide +kernel) rfl rfl ?_ ?_
        · skip
          refine Jl.lit0 k35 rfl rfl rfl rfl el27 (fun g0 => ?_)
          refine Jl.jw ?_
          refine Jw.br2 (mkD [] [0]) 4 5 rfl rfl (by decide +kernel) rfl rfl ?_ ?_
          · skip
            refine Jl.appF (dk := k35) (xs := []) (zs := l.take (cntB befF l x)) flat35 rfl rfl rfl rfl rfl rfl ap27 (by rw [List.length_take]; omega) (by repeat (first | exact memH | refine memT ?_)) (by repeat (first | exact .z | apply OutAt.s)) (by try simp only [List.length_append, List.length_cons, List.length_nil, List.length_take, List.length_drop]; omega) (by try simp only [List.length_append, List.length_cons, List.length_nil, List.length_take, List.length_drop]; omega) (fun A4 c4 h4 => ?_)
            refine Jl.jw ?_
            refine Jw.step (mkD [] [0]) 5 rfl (by decide +kernel) rfl rfl ?_
            refine Jl.yd (Y.loadA rfl rfl agg35 (by repeat (first | exact .head _ | refine .tail _ ?_)) (by rfl)) rfl rfl rfl ?_
            refine Jl.jw ?_
            refine Jw.step (mkD [] [0]) 6 rfl (by decide +kernel) rfl rfl ?_
            refine Jl.litS (us := [.int .i64 x.f0, .int .i64 x.f1, .int .i64 x.f2, .int .i64 x.f3]) (zs := [.int .i64 0, .int .i64 0, .int .i64 0, .int .i64 0]) rfl rfl rfl rfl rfl el27 zero35 rfl rfl (fill4 _ _ _ _ _ _ _ _) (fun g9 => ?_)
            refine Jl.jw ?_
            refine Jw.step (mkD [] [0]) 7 rfl (by decide +kernel) rfl rfl ?_
            refine Jl.app (dk := k35) (xs := [] ++ l.take (cntB befF l x)) x (fun _ => False) rfl rfl rfl rfl rfl rfl ap27 (by repeat (first | exact .head _ | refine .tail _ ?_)) rfl (fun w => k35_mkM w 0 (fun _ => False) x) (IF.encO x) (by repeat (first | exact .z | apply OutAt.s)) (by try simp only [List.length_append, List.length_cons, List.length_nil, List.length_take, List.length_drop]; omega) (by try simp only [List.length_append, List.length_cons, List.length_nil, List.length_take, List.length_drop]; omega) (fun A7 c7 h7 => ?_)
            refine Jl.jw ?_
            refine Jw.step (mkD [] [0]) 9 rfl (by decide +kernel) rfl rfl ?_
            refine Jl.appF (dk := k35) (xs := ([] ++ l.take (cntB befF l x)) ++ [x]) (zs := restL l x) flat35 rfl rfl rfl rfl rfl rfl ap27 rfl (by repeat (first | exact memH | refine memT ?_)) (by repeat (first | exact .z | apply OutAt.s)) (by try simp only [List.length_append, List.length_cons, List.length_nil, List.length_take, List.length_drop]; omega) (by try simp only [List.length_append, List.length_cons, List.length_nil, List.length_take, List.length_drop]; omega) (fun A9 c9 h9 => ?_)
            refine Jl.jw ?_
            refine Jw.take 10 rfl (by decide +kernel) (by intro c a d v w h; cases d <;> exact h) (fun w => Y.asg rfl rfl) rfl rfl rfl ?_
            refine Jw.done (by decide +kernel) (Ej.cutP (ι := Option Addr × Nat) _ _ _ _ (fun _ _ h => h) (A9, c9) (by (try dsimp only); omega) ⟨rfl, rfl, trivial⟩ (by repeat (first | exact .nil | refine Pick.cons (by repeat (first | exact .z | apply OutAt.s)) ?_)) (fun p hp => by simp only [List.mem_cons, List.not_mem_nil, or_false] at hp ⊢; rcases hp with rfl <;> simp))
          · skip
            refine Jl.yd (Y.loadA rfl rfl agg35 (by repeat (first | exact .head _ | refine .tail _ ?_)) (by rfl)) rfl rfl rfl ?_
            refine Jl.jw ?_
            refine Jw.br2 (mkD [] [0]) 4 6 rfl rfl (by decide +kernel) rfl rfl ?_ ?_
            · skip
              refine Jl.appF (dk := k35) (xs := []) (zs := l.take (cntB befF l x)) flat35 rfl rfl rfl rfl rfl rfl ap27 (by rw [List.length_take]; omega) (by repeat (first | exact memH | refine memT ?_)) (by repeat (first | exact .z | apply OutAt.s)) (by try simp only [List.length_append, List.length_cons, List.length_nil, List.length_take, List.length_drop]; omega) (by try simp only [List.length_append, List.length_cons, List.length_nil, List.length_take, List.length_drop]; omega) (fun A4 c4 h4 => ?_)
              refine Jl.jw ?_
              refine Jw.step (mkD [] [0]) 6 rfl (by decide +kernel) rfl rfl ?_
              refine Jl.litS (us := [.int .i64 x.f0, .int .i64 x.f1, .int .i64 x.f2, .int .i64 x.f3]) (zs := [.int .i64 0, .int .i64 0, .int .i64 0, .int .i64 0]) rfl rfl rfl rfl rfl el27 zero35 rfl rfl (fill4 _ _ _ _ _ _ _ _) (fun g9 => ?_)
              refine Jl.jw ?_
              refine Jw.step (mkD [] [0]) 7 rfl (by decide +kernel) rfl rfl ?_
              refine Jl.app (dk := k35) (xs := [] ++ l.take (cntB befF l x)) x (fun _ => False) rfl rfl rfl rfl rfl rfl ap27 (by repeat (first | exact .head _ | refine .tail _ ?_)) rfl (fun w => k35_mkM w 0 (fun _ => False) x) (IF.encO x) (by repeat (first | exact .z | apply OutAt.s)) (by try simp only [List.length_append, List.length_cons, List.length_nil, List.length_take, List.length_drop]; omega) (by try simp only [List.length_append, List.length_cons, List.length_nil, List.length_take, List.length_drop]; omega) (fun A7 c7 h7 => ?_)
              refine Jl.jw ?_
              refine Jw.step (mkD [] [0]) 9 rfl (by decide +kernel) rfl rfl ?_
              refine Jl.appF (dk := k35) (xs := ([] ++ l.take (cntB befF l x)) ++ [x]) (zs := restL l x) flat35 rfl rfl rfl rfl rfl rfl ap27 rfl (by repeat (first | exact memH | refine memT ?_)) (by repeat (first | exact .z | apply OutAt.s)) (by try simp only [List.length_append, List.length_cons, List.length_nil, List.length_take, List.length_drop]; omega) (by try simp only [List.length_append, List.length_cons, List.length_nil, List.length_take, List.length_drop]; omega) (fun A9 c9 h9 => ?_)
              refine Jl.jw ?_
              refine Jw.take 10 rfl (by decide +kernel) (by intro c a d v w h; cases d <;> exact h) (fun w => Y.asg rfl rfl) rfl rfl rfl ?_
              refine Jw.done (by decide +kernel) (Ej.cutP (ι := Option Addr × Nat) _ _ _ _ (fun _ _ h => h) (A9, c9) (by (try dsimp only); omega) ⟨rfl, rfl, trivial⟩ (by repeat (first | exact .nil | refine Pick.cons (by repeat (first | exact .z | apply OutAt.s)) ?_)) (fun p hp => by simp only [List.mem_cons, List.not_mem_nil, or_false] at hp ⊢; rcases hp with rfl <;> simp))
            · skip
              refine Jl.litS (us := [.int .i64 x.f0, .int .i64 x.f1, .int .i64 x.f2, .int .i64 x.f3]) (zs := [.int .i64 0, .int .i64 0, .int .i64 0, .int .i64 0]) rfl rfl rfl rfl rfl el27 zero35 rfl rfl (fill4 _ _ _ _ _ _ _ _) (fun g9 => ?_)
              refine Jl.jw ?_
              refine Jw.step (mkD [] [0]) 4 rfl (by decide +kernel) rfl rfl ?_
              refine Jl.appF (dk := k35) (xs := []) (zs := l.take (cntB befF l x)) flat35 rfl rfl rfl rfl rfl rfl ap27 (by rw [List.length_take]; omega) (by repeat (first | exact memH | refine memT ?_)) (by repeat (first | exact .z | apply OutAt.s)) (by try simp only [List.length_append, List.length_cons, List.length_nil, List.length_take, List.length_drop]; omega) (by try simp only [List.length_append, List.length_cons, List.length_nil, List.length_take, List.length_drop]; omega) (fun A4 c4 h4 => ?_)
              refine Jl.jw ?_
              refine Jw.step (mkD [] [0]) 7 rfl (by decide +kernel) rfl rfl ?_
              refine Jl.app (dk := k35) (xs := [] ++ l.take (cntB befF l x)) x (fun _ => False) rfl rfl rfl rfl rfl rfl ap27 (by repeat (first | exact .head _ | refine .tail _ ?_)) rfl (fun w => k35_mkM w 0 (fun _ => False) x) (IF.encO x) (by repeat (first | exact .z | apply OutAt.s)) (by try simp only [List.length_append, List.length_cons, List.length_nil, List.length_take, List.length_drop]; omega) (by try simp only [List.length_append, List.length_cons, List.length_nil, List.length_take, List.length_drop]; omega) (fun A7 c7 h7 => ?_)
              refine Jl.jw ?_
              refine Jw.step (mkD [] [0]) 9 rfl (by decide +kernel) rfl rfl ?_
              refine Jl.appF (dk := k35) (xs := ([] ++ l.take (cntB befF l x)) ++ [x]) (zs := restL l x) flat35 rfl rfl rfl rfl rfl rfl ap27 rfl (by repeat (first | exact memH | refine memT ?_)) (by repeat (first | exact .z | apply OutAt.s)) (by try simp only [List.length_append, List.length_cons, List.length_nil, List.length_take, List.length_drop]; omega) (by try simp only [List.length_append, List.length_cons, List.length_nil, List.length_take, List.length_drop]; omega) (fun A9 c9 h9 => ?_)
              refine Jl.jw ?_
              refine Jw.take 10 rfl (by decide +kernel) (by intro c a d v w h; cases d <;> exact h) (fun w => Y.asg rfl rfl) rfl rfl rfl ?_
              refine Jw.done (by decide +kernel) (Ej.cutP (ι := Option Addr × Nat) _ _ _ _ (fun _ _ h => h) (A9, c9) (by (try dsimp only); omega) ⟨rfl, rfl, trivial⟩ (by repeat (first | exact .nil | refine Pick.cons (by repeat (first | exact .z | apply OutAt.s)) ?_)) (fun p hp => by simp only [List.mem_cons, List.not_mem_nil, or_false] at hp ⊢; rcases hp with rfl <;> simp))
        · skip
          refine Jl.yd (Y.loadA rfl rfl agg35 (by repeat (first | exact .head _ | refine .tail _ ?_)) (by rfl)) rfl rfl rfl ?_
          refine Jl.jw ?_
          refine Jw.br2 (mkD [] [0]) 0 6 rfl rfl (by decide +kernel) rfl rfl ?_ ?_
          · skip
            refine Jl.lit0 k35 rfl rfl rfl rfl el27 (fun g0 => ?_)
            refine Jl.jw ?_
            refine Jw.br2 (mkD [] [0]) 4 6 rfl rfl (by decide +kernel) rfl rfl ?_ ?_
            · skip
              refine Jl.appF (dk := k35) (xs := []) (zs := l.take (cntB befF l x)) flat35 rfl rfl rfl rfl rfl rfl ap27 (by rw [List.length_take]; omega) (by repeat (first | exact memH | refine memT ?_)) (by repeat (first | exact .z | apply OutAt.s)) (by try simp only [List.length_append, List.length_cons, List.length_nil, List.length_take, List.length_drop]; omega) (by try simp only [List.length_append, List.length_cons, List.length_nil, List.length_take, List.length_drop]; omega) (fun A4 c4 h4 => ?_)
              refine Jl.jw ?_
              refine Jw.step (mkD [] [0]) 6 rfl (by decide +kernel) rfl rfl ?_
              refine Jl.litS (us := [.int .i64 x.f0, .int .i64 x.f1, .int .i64 x.f2, .int .i64 x.f3]) (zs := [.int .i64 0, .int .i64 0, .int .i64 0, .int .i64 0]) rfl rfl rfl rfl rfl el27 zero35 rfl rfl (fill4 _ _ _ _ _ _ _ _) (fun g9 => ?_)
              refine Jl.jw ?_
              refine Jw.step (mkD [] [0]) 7 rfl (by decide +kernel) rfl rfl ?_
              refine Jl.app (dk := k35) (xs := [] ++ l.take (cntB befF l x)) x (fun _ => False) rfl rfl rfl rfl rfl rfl ap27 (by repeat (first | exact .head _ | refine .tail _ ?_)) rfl (fun w => k35_mkM w 0 (fun _ => False) x) (IF.encO x) (by repeat (first | exact .z | apply OutAt.s)) (by try simp only [List.length_append, List.length_cons, List.length_nil, List.length_take, List.length_drop]; omega) (by try simp only [List.length_append, List.length_cons, List.length_nil, List.length_take, List.length_drop]; omega) (fun A7 c7 h7 => ?_)
              refine Jl.jw ?_
              refine Jw.step (mkD [] [0]) 9 rfl (by decide +kernel) rfl rfl ?_
              refine Jl.appF (dk := k35) (xs := ([] ++ l.take (cntB befF l x)) ++ [x]) (zs := restL l x) flat35 rfl rfl rfl rfl rfl rfl ap27 rfl (by repeat (first | exact memH | refine memT ?_)) (by repeat (first | exact .z | apply OutAt.s)) (by try simp only [List.length_append, List.length_cons, List.length_nil, List.length_take, List.length_drop]; omega) (by try simp only [List.length_append, List.length_cons, List.length_nil, List.length_take, List.length_drop]; omega) (fun A9 c9 h9 => ?_)
              refine Jl.jw ?_
              refine Jw.take 10 rfl (by decide +kernel) (by intro c a d v w h; cases d <;> exact h) (fun w => Y.asg rfl rfl) rfl rfl rfl ?_
              refine Jw.done (by decide +kernel) (Ej.cutP (ι := Option Addr × Nat) _ _ _ _ (fun _ _ h => h) (A9, c9) (by (try dsimp only); omega) ⟨rfl, rfl, trivial⟩ (by repeat (first | exact .nil | refine Pick.cons (by repeat (first | exact .z | apply OutAt.s)) ?_)) (fun p hp => by simp only [List.mem_cons, List.not_mem_nil, or_false] at hp ⊢; rcases hp with rfl <;> simp))
            · skip
              refine Jl.litS (us := [.int .i64 x.f0, .int .i64 x.f1, .int .i64 x.f2, .int .i64 x.f3]) (zs := [.int .i64 0, .int .i64 0, .int .i64 0, .int .i64 0]) rfl rfl rfl rfl rfl el27 zero35 rfl rfl (fill4 _ _ _ _ _ _ _ _) (fun g9 => ?_)
              refine Jl.jw ?_
              refine Jw.step (mkD [] [0]) 4 rfl (by decide +kernel) rfl rfl ?_
              refine Jl.appF (dk := k35) (xs := []) (zs := l.take (cntB befF l x)) flat35 rfl rfl rfl rfl rfl rfl ap27 (by rw [List.length_take]; omega) (by repeat (first | exact memH | refine memT ?_)) (by repeat (first | exact .z | apply OutAt.s)) (by try simp only [List.length_append, List.length_cons, List.length_nil, List.length_take, List.length_drop]; omega) (by try simp only [List.length_append, List.length_cons, List.length_nil, List.length_take, List.length_drop]; omega) (fun A4 c4 h4 => ?_)
              refine Jl.jw ?_
              refine Jw.step (mkD [] [0]) 7 rfl (by decide +kernel) rfl rfl ?_
              refine Jl.app (dk := k35) (xs := [] ++ l.take (cntB befF l x)) x (fun _ => False) rfl rfl rfl rfl rfl rfl ap27 (by repeat (first | exact .head _ | refine .tail _ ?_)) rfl (fun w => k35_mkM w 0 (fun _ => False) x) (IF.encO x) (by repeat (first | exact .z | apply OutAt.s)) (by try simp only [List.length_append, List.length_cons, List.length_nil, List.length_take, List.length_drop]; omega) (by try simp only [List.length_append, List.length_cons, List.length_nil, List.length_take, List.length_drop]; omega) (fun A7 c7 h7 => ?_)
              refine Jl.jw ?_
              refine Jw.step (mkD [] [0]) 9 rfl (by decide +kernel) rfl rfl ?_
              refine Jl.appF (dk := k35) (xs := ([] ++ l.take (cntB befF l x)) ++ [x]) (zs := restL l x) flat35 rfl rfl rfl rfl rfl rfl ap27 rfl (by repeat (first | exact memH | refine memT ?_)) (by repeat (first | exact .z | apply OutAt.s)) (by try simp only [List.length_append, List.length_cons, List.length_nil, List.length_take, List.length_drop]; omega) (by try simp only [List.length_append, List.length_cons, List.length_nil, List.length_take, List.length_drop]; omega) (fun A9 c9 h9 => ?_)
              refine Jl.jw ?_
              refine Jw.take 10 rfl (by decide +kernel) (by intro c a d v w h; cases d <;> exact h) (fun w => Y.asg rfl rfl) rfl rfl rfl ?_
              refine Jw.done (by decide +kernel) (Ej.cutP (ι := Option Addr × Nat) _ _ _ _ (fun _ _ h => h) (A9, c9) (by (try dsimp only); omega) ⟨rfl, rfl, trivial⟩ (by repeat (first | exact .nil | refine Pick.cons (by repeat (first | exact .z | apply OutAt.s)) ?_)) (fun p hp => by simp only [List.mem_cons, List.not_mem_nil, or_false] at hp ⊢; rcases hp with rfl <;> simp))
          · skip
            refine Jl.litS (us := [.int .i64 x.f0, .int .i64 x.f1, .int .i64 x.f2, .int .i64 x.f3]) (zs := [.int .i64 0, .int .i64 0, .int .i64 0, .int .i64 0]) rfl rfl rfl rfl rfl el27 zero35 rfl rfl (fill4 _ _ _ _ _ _ _ _) (fun g9 => ?_)
            refine Jl.jw ?_
            refine Jw.step (mkD [] [0]) 0 rfl (by decide +kernel) rfl rfl ?_
            refine Jl.lit0 k35 rfl rfl rfl rfl el27 (fun g0 => ?_)
            refine Jl.jw ?_
            refine Jw.step (mkD [] [0]) 4 rfl (by decide +kernel) rfl rfl ?_
            refine Jl.appF (dk := k35) (xs := []) (zs := l.take (cntB befF l x)) flat35 rfl rfl rfl rfl rfl rfl ap27 (by rw [List.length_take]; omega) (by repeat (first | exact memH | refine memT ?_)) (by repeat (first | exact .z | apply OutAt.s)) (by try simp only [List.length_append, List.length_cons, List.length_nil, List.length_take, List.length_drop]; omega) (by try simp only [List.length_append, List.length_cons, List.length_nil, List.length_take, List.length_drop]; omega) (fun A4 c4 h4 => ?_)
            refine Jl.jw ?_
            refine Jw.step (mkD [] [0]) 7 rfl (by decide +kernel) rfl rfl ?_
            refine Jl.app (dk := k35) (xs := [] ++ l.take (cntB befF l x)) x (fun _ => False) rfl rfl rfl rfl rfl rfl ap27 (by repeat (first | exact .head _ | refine .tail _ ?_)) rfl (fun w => k35_mkM w 0 (fun _ => False) x) (IF.encO x) (by repeat (first | exact .z | apply OutAt.s)) (by try simp only [List.length_append, List.length_cons, List.length_nil, List.length_take, List.length_drop]; omega) (by try simp only [List.length_append, List.length_cons, List.length_nil, List.length_take, List.length_drop]; omega) (fun A7 c7 h7 => ?_)
            refine Jl.jw ?_
            refine Jw.step (mkD [] [0]) 9 rfl (by decide +kernel) rfl rfl ?_
            refine Jl.appF (dk := k35) (xs := ([] ++ l.take (cntB befF l x)) ++ [x]) (zs := restL l x) flat35 rfl rfl rfl rfl rfl rfl ap27 rfl (by repeat (first | exact memH | refine memT ?_)) (by repeat (first | exact .z | apply OutAt.s)) (by try simp only [List.length_append, List.length_cons, List.length_nil, List.length_take, List.length_drop]; omega) (by try simp only [List.length_append, List.length_cons, List.length_nil, List.length_take, List.length_drop]; omega) (fun A9 c9 h9 => ?_)
            refine Jl.jw ?_
            refine Jw.take 10 rfl (by decide +kernel) (by intro c a d v w h; cases d <;> exact h) (fun w => Y.asg rfl rfl) rfl rfl rfl ?_
            refine Jw.done (by decide +kernel) (Ej.cutP (ι := Option Addr × Nat) _ _ _ _ (fun _ _ h => h) (A9, c9) (by (try dsimp only); omega) ⟨rfl, rfl, trivial⟩ (by repeat (first | exact .nil | refine Pick.cons (by repeat (first | exact .z | apply OutAt.s)) ?_)) (fun p hp => by simp only [List.mem_cons, List.not_mem_nil, or_false] at hp ⊢; rcases hp with rfl <;> simp))
      · clear hg2
        cases b with
        | true =>
          repeat (first
              | (apply gateO; first
                | refine Jl.yd (Y.mv rfl rfl) rfl rfl rfl ?_
                | refine Jl.yd (Y.asg rfl rfl) rfl rfl rfl ?_
                | refine Jl.yd (Y.ext rfl rfl rfl) rfl rfl rfl ?_
                | refine Jl.yd (Y.pickT rfl rfl rfl) rfl rfl rfl ?_
                | refine Jl.yd (Y.pickF rfl rfl rfl) rfl rfl rfl ?_
                | refine Jl.off rfl rfl rfl ?_
                | refine Jl.yd (Y.cmpF rfl rfl rfl rfl (by omega)) rfl rfl rfl ?_
                | refine Jl.yd (Y.cmpT rfl rfl rfl rfl (by omega)) rfl rfl rfl ?_
                | refine Jl.yd (Y.neqB rfl rfl rfl Try.underlying4) rfl rfl rfl ?_
                | refine Jl.yd (Y.cmp rfl rfl rfl rfl) rfl rfl rfl ?_
                | refine Jl.yd (Y.not rfl rfl) rfl rfl rfl ?_
                | refine Jl.yd (Y.arithN rfl rfl rfl rfl (by omega)) rfl rfl rfl ?_
                | refine Jl.yd (Y.arith64 rfl rfl rfl rfl) rfl rfl rfl ?_
                | refine Jl.yd (Y.loadA rfl rfl agg26 (by repeat (first | exact .head _ | refine .tail _ ?_)) (by rfl)) rfl rfl rfl ?_
                | refine Jl.yd (Y.lenS Try.underlying27 rfl rfl rfl) rfl rfl rfl ?_
                | refine Jl.call1 (v := .bool true) rfl rfl rfl rfl en90 rfl (fun w hW => by with_reducible exact spec_l22Good.calls kk2 wd ht A0 c0 cs _ _ ((([] ++ l.take (cntB befF l x)) ++ [x]) ++ restL l x) true w (hW.fact (p := (fun W => Kd.C (Kd.int .i64) W A0 cs.length cs)) (by repeat (first | exact memH | refine memT ?_))) hc (hW.rowC (by repeat (first | exact memH | refine memT ?_))) (hW.rowCap (by repeat (first | exact memH | refine memT ?_))).2 hk2) ?_
                | refine Jl.lit0 k35 rfl rfl rfl rfl el27 (fun gr => ?_)
                | refine Jl.splitG rfl rfl (fun h => ?_) (fun h => ?_))
              | (apply gateE; first
                | refine Jl.nil (Ej.go ?_ (fun _ _ h => h))
                | (refine Jl.nil (Ej.back (fun _ _ h => h) (by repeat (first | exact .refl | apply DropTo.tail)) ?_); repeat (first | exact trivial | refine ⟨rfl, ?_⟩)))
              | (apply gateC; first
                | refine Cj.ret rfl (Ej.out2 (P := Try.prog) (fn := Try.f21) (R := nsPost w true (bif true then ((([] ++ l.take (cntB befF l x)) ++ [x]) ++ restL l x) else [])) (fun _ _ h => h) rfl rfl rfl (fun w' hW => ⟨_, rfl, outF hW (by repeat (first | exact .nil | refine Pick.cons (by repeat (first | exact .z | apply OutAt.s)) ?_)), hW.below⟩))
                | refine Cj.condF rfl rfl (Cj.skip rfl (Ej.go ?_ (fun _ _ h => h)))
                | (refine Cj.condF rfl rfl (Cj.skip rfl (Ej.back (fun _ _ h => h) (by repeat (first | exact .refl | apply DropTo.tail)) ?_)); repeat (first | exact trivial | refine ⟨rfl, ?_⟩))
                | refine Cj.condF rfl rfl ?_
                | refine Cj.condT rfl rfl ?_
                | refine Cj.exit rfl (Ej.go ?_ (fun _ _ h => h))
                | refine Cj.cond rfl rfl (fun h => ?_) (fun h => ?_)
                | refine Cj.skip rfl (Ej.go ?_ (fun _ _ h => h))
                | (refine Cj.skip rfl (Ej.back (fun _ _ h => h) (by repeat (first | exact .refl | apply DropTo.tail)) ?_); repeat (first | exact trivial | refine ⟨rfl, ?_⟩))
                | refine Cj.seq rfl ?_
                | refine Cj.region rfl ?_))
        | false =>
          repeat (first
              | (apply gateO; first
                | refine Jl.yd (Y.mv rfl rfl) rfl rfl rfl ?_
                | refine Jl.yd (Y.asg rfl rfl) rfl rfl rfl ?_
                | refine Jl.yd (Y.ext rfl rfl rfl) rfl rfl rfl ?_
                | refine Jl.yd (Y.pickT rfl rfl rfl) rfl rfl rfl ?_
                | refine Jl.yd (Y.pickF rfl rfl rfl) rfl rfl rfl ?_
                | refine Jl.off rfl rfl rfl ?_
                | refine Jl.yd (Y.cmpF rfl rfl rfl rfl (by omega)) rfl rfl rfl ?_
                | refine Jl.yd (Y.cmpT rfl rfl rfl rfl (by omega)) rfl rfl rfl ?_
                | refine Jl.yd (Y.neqB rfl rfl rfl Try.underlying4) rfl rfl rfl ?_
                | refine Jl.yd (Y.cmp rfl rfl rfl rfl) rfl rfl rfl ?_
                | refine Jl.yd (Y.not rfl rfl) rfl rfl rfl ?_
                | refine Jl.yd (Y.arithN rfl rfl rfl rfl (by omega)) rfl rfl rfl ?_
                | refine Jl.yd (Y.arith64 rfl rfl rfl rfl) rfl rfl rfl ?_
                | refine Jl.yd (Y.loadA rfl rfl agg26 (by repeat (first | exact .head _ | refine .tail _ ?_)) (by rfl)) rfl rfl rfl ?_
                | refine Jl.yd (Y.lenS Try.underlying27 rfl rfl rfl) rfl rfl rfl ?_
                | refine Jl.call1 (v := .bool false) rfl rfl rfl rfl en90 rfl (fun w hW => by with_reducible exact spec_l22Good.calls kk2 wd ht A0 c0 cs _ _ ((([] ++ l.take (cntB befF l x)) ++ [x]) ++ restL l x) false w (hW.fact (p := (fun W => Kd.C (Kd.int .i64) W A0 cs.length cs)) (by repeat (first | exact memH | refine memT ?_))) hc (hW.rowC (by repeat (first | exact memH | refine memT ?_))) (hW.rowCap (by repeat (first | exact memH | refine memT ?_))).2 hk2) ?_
                | refine Jl.lit0 k35 rfl rfl rfl rfl el27 (fun gr => ?_)
                | refine Jl.splitG rfl rfl (fun h => ?_) (fun h => ?_))
              | (apply gateE; first
                | refine Jl.nil (Ej.go ?_ (fun _ _ h => h))
                | (refine Jl.nil (Ej.back (fun _ _ h => h) (by repeat (first | exact .refl | apply DropTo.tail)) ?_); repeat (first | exact trivial | refine ⟨rfl, ?_⟩)))
              | (apply gateC; first
                | refine Cj.ret rfl (Ej.out2 (P := Try.prog) (fn := Try.f21) (R := nsPost w false (bif false then ((([] ++ l.take (cntB befF l x)) ++ [x]) ++ restL l x) else [])) (fun _ _ h => h) rfl rfl rfl (fun w' hW => ⟨_, rfl, outF hW (by repeat (first | exact .nil | refine Pick.cons (by repeat (first | exact .z | apply OutAt.s)) ?_)), hW.below⟩))
                | refine Cj.condF rfl rfl (Cj.skip rfl (Ej.go ?_ (fun _ _ h => h)))
                | (refine Cj.condF rfl rfl (Cj.skip rfl (Ej.back (fun _ _ h => h) (by repeat (first | exact .refl | apply DropTo.tail)) ?_)); repeat (first | exact trivial | refine ⟨rfl, ?_⟩))
                | refine Cj.condF rfl rfl ?_
                | refine Cj.condT rfl rfl ?_
                | refine Cj.exit rfl (Ej.go ?_ (fun _ _ h => h))
                | refine Cj.cond rfl rfl (fun h => ?_) (fun h => ?_)
                | refine Cj.skip rfl (Ej.go ?_ (fun _ _ h => h))
                | (refine Cj.skip rfl (Ej.back (fun _ _ h => h) (by repeat (first | exact .refl | apply DropTo.tail)) ?_); repeat (first | exact trivial | refine ⟨rfl, ?_⟩))
                | refine Cj.seq rfl ?_
                | refine Cj.region rfl ?_))
end NF
end Go.Proofs.Ytkglpfdoefdhdaa.WK

namespace Go.Proofs.Ytkglpfdoefdhdaa.WK
open Go Go.RowKit Go.Proofs.Ytkglpfdoefdhdaa.Q Go.Proofs.Ytkglpfdoefdhdaa.M Go.Proofs.YtkglpfdoefdhdaaW.PrintWords Go.Proofs.YtkglpfdoefdhdaaW.SL
open Go.Proofs.YtkglpfdoefdhdaaW.Pl (nth nth_get)
set_option linter.unusedSimpArgs false
set_option linter.unusedVariables false
set_option maxRecDepth 100000
namespace NFL
open MO (agg26 mixed)
open NF (noteL note_rest nsNo nsAll niNo niAll)
theorem agg46 : AggT Try.prog 46 3 := ⟨by kernel_rfl⟩
theorem sz26 : SzT Try.prog 26 3 := ⟨by kernel_rfl⟩
theorem zero26 : ZeroT Try.prog 26 [.int .i64 0, .int .i64 0, .slice none 0 0] := ⟨by kernel_rfl⟩
theorem en27 : Ent Try.prog 27 := ⟨enters_of Try.func27 (by kernel_rfl) rfl⟩
theorem en28 : Ent Try.prog 28 := ⟨enters_of Try.func28 (by kernel_rfl) rfl⟩
theorem en29 : Ent Try.prog 29 := ⟨enters_of Try.func29 (by kernel_rfl) rfl⟩
theorem en30 : Ent Try.prog 30 := ⟨enters_of Try.func30 (by kernel_rfl) rfl⟩
theorem en21 : Ent Try.prog 21 := ⟨enters_of Try.func21 (by kernel_rfl) rfl⟩
theorem en20 : Ent Try.prog 20 := ⟨enters_of Try.func20 (by kernel_rfl) rfl⟩
theorem en33 : Ent Try.prog 33 := ⟨enters_of Try.func33 (by kernel_rfl) rfl⟩
theorem en32 : Ent Try.prog 32 := ⟨enters_of Try.func32 (by kernel_rfl) rfl⟩
theorem en34 : Ent Try.prog 34 := ⟨enters_of Try.func34 (by kernel_rfl) rfl⟩
theorem en35 : Ent Try.prog 35 := ⟨enters_of Try.func35 (by kernel_rfl) rfl⟩
theorem en36 : Ent Try.prog 36 := ⟨enters_of Try.func36 (by kernel_rfl) rfl⟩
def quQ (wd ht : Int) (cs : List Int) (l : List S35) (x : S35) : List S35 × Bool := if (goodF wd ht cs l && goodF wd ht cs (noteL l x)) = true then ((noteL l x), true) else ([], false)
theorem quQ_len (wd ht : Int) (cs : List Int) (l : List S35) (x : S35) : (quQ wd ht cs l x).1.length ≤ 12 := by
  unfold quQ
  split
  · rename_i h
    rw [Bool.and_eq_true] at h
    exact (goodF_at h.2).2.1
  · exact Nat.zero_le _
theorem held_n {k n c m : Nat} {r : Int} {w : World} {A : Option Addr} (hn : n = (marksF m).length) (hr : Kd.C k35 w A (marksF m).length (marksF m)) (hc : (marksF m).length ≤ c) (h : laws_heldFlawS.f k (marksF m) 1 = some r) : Calls Try.prog 36 #[.slice A n c, .int .i64 1] w fun e w' => e = .returned (.int .i64 r) ∧ Below w.heap.size w w' := by
  subst hn
  exact (laws_heldFlawS.calls k A c (marksF m) 1 r w hr hc h).mono (fun _ _ hh => ⟨hh.1, hh.2.below⟩)
theorem agg48 : AggT Try.prog 48 4 := ⟨by kernel_rfl⟩
theorem en31 : Ent Try.prog 31 := ⟨enters_of Try.func31 (by kernel_rfl) rfl⟩
theorem eqAny {xs : List S35} (hb : xs.length ≤ 1048576) {A A' : Option Addr} {c c' : Nat} {w : World} (h1 : Kd.C k35 w A xs.length xs) (h2 : xs.length ≤ c) (h3 : Kd.C k35 w A' xs.length xs) (h4 : xs.length ≤ c') : Calls Try.prog 32 #[.slice A xs.length c, .slice A' xs.length c'] w fun e w' => e = .returned (.bool true) ∧ Below w.heap.size w w' := by
  obtain ⟨k, hk⟩ := (eqFlaws xs hb).rounds
  exact laws_eqFlawS.calls k A c xs A' c' xs true w h1 h2 h3 h4 hk
theorem sM {wd ht : Int} {cs : List Int} {l : List S35} (x : S35) (A0 : Option Addr) (c0 : Nat) (A1 : Option Addr) (c1 : Nat) (w : World) (hrC : Kd.C (Kd.int .i64) w A0 cs.length cs) (hc : cs.length ≤ c0) (hrH : Kd.C k35 w A1 l.length l) (hcl : l.length ≤ c1) (hlb : l.length ≤ 1048576) (hcb : cs.length ≤ 1048576) : Calls Try.prog 21 #[.agg #[.int .i64 wd, .int .i64 ht, .slice A0 cs.length c0], .slice A1 l.length c1, .agg #[.int .i64 x.f0, .int .i64 x.f1, .int .i64 x.f2, .int .i64 x.f3]] w fun e w' => ∃ v, e = .returned (.tuple #[v, .bool (quQ wd ht cs l x).2]) ∧ k35.R 35 w' w.heap.size (fun _ => True) v (quQ wd ht cs l x).1 ∧ Below w.heap.size w w' := by
  cases hg : goodF wd ht cs l with
  | false => rw [show quQ wd ht cs l x = ([], false) by unfold quQ; rw [hg]; rfl]; exact nsNo x A0 c0 A1 c1 w hrC hc hrH hcl hlb hcb hg
  | true =>
    cases hg2 : goodF wd ht cs (noteL l x) with
    | false => rw [show quQ wd ht cs l x = ([], false) by unfold quQ; rw [hg, hg2]; rfl]; exact nsAll x A0 c0 A1 c1 w hrC hc hrH hcl hlb hcb hg false (by rw [note_rest]; exact hg2)
    | true => rw [show quQ wd ht cs l x = ((noteL l x), true) by unfold quQ; rw [hg, hg2]; rfl, ← note_rest]; exact nsAll x A0 c0 A1 c1 w hrC hc hrH hcl hlb hcb hg true (by rw [note_rest]; exact hg2)
theorem iM {wd ht : Int} {cs : List Int} {l : List S35} (x : S35) (A0 : Option Addr) (c0 : Nat) (A1 : Option Addr) (c1 : Nat) (w : World) (hrC : Kd.C (Kd.int .i64) w A0 cs.length cs) (hc : cs.length ≤ c0) (hrH : Kd.C k35 w A1 l.length l) (hcl : l.length ≤ c1) (hlb : l.length ≤ 1048576) : Calls Try.prog 20 #[.agg #[.int .i64 wd, .int .i64 ht, .slice A0 cs.length c0], .slice A1 l.length c1, .agg #[.int .i64 x.f0, .int .i64 x.f1, .int .i64 x.f2, .int .i64 x.f3]] w fun e w' => ∃ v, e = .returned (.tuple #[v, .bool (quQ wd ht cs l x).2]) ∧ k35.R 35 w' w.heap.size (fun _ => True) v (quQ wd ht cs l x).1 ∧ Below w.heap.size w w' := by
  cases hg : goodF wd ht cs l with
  | false => rw [show quQ wd ht cs l x = ([], false) by unfold quQ; rw [hg]; rfl]; exact niNo x A0 c0 A1 c1 w hrC hc hrH hcl hlb hg
  | true =>
    have h := niAll x A0 c0 A1 c1 w hrC hc hrH hcl hlb hg
    cases hg2 : goodF wd ht cs (noteL l x) with
    | false => rw [hg2] at h; rw [show quQ wd ht cs l x = ([], false) by unfold quQ; rw [hg, hg2]; rfl]; exact h
    | true => rw [hg2] at h; rw [show quQ wd ht cs l x = ((noteL l x), true) by unfold quQ; rw [hg, hg2]; rfl]; exact h
set_option maxHeartbeats 2000000 in
theorem walkA (wd ht : Int) (cs : List Int) (l0 : List S48) (x : S35) (A0 : Option Addr) (c0 : Nat) (A1 : Option Addr) (c1 : Nat) (w : World) (hr0 : Kd.C (Kd.int .i64) w A0 cs.length cs) (hc0 : cs.length ≤ c0) (hr1 : Kd.C k48 w A1 l0.length l0) (hc1 : l0.length ≤ c1) (r : Int) (hz : laws_szChart.f wd ht cs 1048576 = some r) (hr : r < 0) : Calls Try.prog 4 #[.agg #[.int .i64 wd, .int .i64 ht, .slice A0 cs.length c0], .slice A1 l0.length c1, .agg #[.int .i64 x.f0, .int .i64 x.f1, .int .i64 x.f2, .int .i64 x.f3]] w fun e w' => e = .returned (.bool true) ∧ Below w.heap.size w w' := by
  refine enterW (args := [.agg #[.int .i64 wd, .int .i64 ht, .slice A0 cs.length c0], .slice A1 l0.length c1, .agg #[.int .i64 x.f0, .int .i64 x.f1, .int .i64 x.f2, .int .i64 x.f3]]) [(fun W => Kd.C (Kd.int .i64) W A0 cs.length cs), (fun W => Kd.C k48 W A1 l0.length l0)] (fun p hp W hb => by
    rcases List.mem_cons.1 hp with rfl | hp
    · exact Kd.C_below hr0 hb
    · rw [List.mem_singleton.1 hp]; exact Kd.C_below hr1 hb) Try.func4 rfl rfl ?_
  repeat (first
    | (apply gateO; first
      | refine Jl.yd (Y.mv rfl rfl) rfl rfl rfl ?_
      | refine Jl.yd (Y.asg rfl rfl) rfl rfl rfl ?_
      | refine Jl.yd (Y.ext rfl rfl rfl) rfl rfl rfl ?_
      | refine Jl.yd (Y.pickT rfl rfl rfl) rfl rfl rfl ?_
      | refine Jl.yd (Y.pickF rfl rfl rfl) rfl rfl rfl ?_
      | refine Jl.off rfl rfl rfl ?_
      | refine Jl.yd (Y.cmpF rfl rfl rfl rfl (by omega)) rfl rfl rfl ?_
      | refine Jl.yd (Y.cmpT rfl rfl rfl rfl (by omega)) rfl rfl rfl ?_
      | refine Jl.yd (Y.neqB rfl rfl rfl Try.underlying4) rfl rfl rfl ?_
      | refine Jl.yd (Y.cmp rfl rfl rfl rfl) rfl rfl rfl ?_
      | refine Jl.yd (Y.not rfl rfl) rfl rfl rfl ?_
      | refine Jl.yd (Y.arithN rfl rfl rfl rfl (by omega)) rfl rfl rfl ?_
      | refine Jl.yd (Y.arith64 rfl rfl rfl rfl) rfl rfl rfl ?_
      | refine Jl.yd (Y.loadA rfl rfl agg46 (by repeat (first | exact .head _ | refine .tail _ ?_)) (by rfl)) rfl rfl rfl ?_
      | refine Jl.yd (Y.loadA rfl rfl agg26 (by repeat (first | exact .head _ | refine .tail _ ?_)) (by rfl)) rfl rfl rfl ?_
      | refine Jl.alloc rfl rfl rfl rfl zero26 (fun g => ?_)
      | refine Jl.storeA rfl rfl rfl rfl rfl sz26 (by repeat (first | exact .z | apply SetAt.s)) (by rfl) (by rfl) ?_
      | refine Jl.call1 (v := .int .i64 r) rfl rfl rfl rfl en27 rfl (fun w hW => by with_reducible first | exact laws_szChart.calls wd ht _ _ cs 1048576 r w (hW.fact (p := (fun W => Kd.C (Kd.int .i64) W A0 cs.length cs)) (by repeat (first | exact memH | refine memT ?_))) hc0 hz | exact Calls.mono (laws_szChart.calls wd ht _ _ cs 1048576 r w (hW.fact (p := (fun W => Kd.C (Kd.int .i64) W A0 cs.length cs)) (by repeat (first | exact memH | refine memT ?_))) hc0 hz) (fun _ _ hh => ⟨hh.1, hh.2.below⟩)) ?_
      | refine Jl.box (zs := [.int .i64 x.f0, .int .i64 x.f1, .int .i64 x.f2, .int .i64 x.f3]) rfl rfl rfl rfl rfl (by rfl) (fun gx => ?_)
      | refine Jl.yd (Y.loadA rfl rfl agg48 (by repeat (first | exact .head _ | refine .tail _ ?_)) (by rfl)) rfl rfl rfl ?_
      | refine Jl.call1 (v := .agg #[.int .i64 x.f0, .int .i64 x.f1, .int .i64 x.f2, .int .i64 x.f3]) rfl rfl rfl rfl en31 rfl (fun w hW => by with_reducible exact laws_toFlaw.calls x.f0 x.f1 x.f2 x.f3 x.f0 x.f1 x.f2 x.f3 w rfl) ?_
      | refine Jl.box (zs := [.int .i64 wd, .int .i64 ht, .slice A0 cs.length c0]) rfl rfl rfl rfl rfl (by rfl) (fun g => ?_)
      | refine Jl.splitG rfl rfl (fun h => ?_) (fun h => ?_))
    | (apply gateE; first
      | refine Jl.nil (Ej.go ?_ (fun _ _ h => h))
      | (refine Jl.nil (Ej.back (fun _ _ h => h) (by repeat (first | exact .refl | apply DropTo.tail)) ?_); repeat (first | exact trivial | refine ⟨rfl, ?_⟩)))
    | (apply gateC; first
      | refine Cj.ret rfl (Ej.out1 (P := Try.prog) (fn := Try.f4) (R := fun e w' => e = .returned (.bool true) ∧ Below w.heap.size w w') (fun _ _ h => h) rfl rfl (fun w hW => ⟨rfl, hW.below⟩))
      | refine Cj.condF rfl rfl (Cj.skip rfl (Ej.go ?_ (fun _ _ h => h)))
      | (refine Cj.condF rfl rfl (Cj.skip rfl (Ej.back (fun _ _ h => h) (by repeat (first | exact .refl | apply DropTo.tail)) ?_)); repeat (first | exact trivial | refine ⟨rfl, ?_⟩))
      | refine Cj.condF rfl rfl ?_
      | refine Cj.condT rfl rfl ?_
      | refine Cj.exit rfl (Ej.go ?_ (fun _ _ h => h))
      | refine Cj.cond rfl rfl (fun h => ?_) (fun h => ?_)
      | refine Cj.skip rfl (Ej.go ?_ (fun _ _ h => h))
      | (refine Cj.skip rfl (Ej.back (fun _ _ h => h) (by repeat (first | exact .refl | apply DropTo.tail)) ?_); repeat (first | exact trivial | refine ⟨rfl, ?_⟩))
      | refine Cj.seq rfl ?_
      | refine Cj.region rfl ?_))

set_option maxHeartbeats 2000000 in
theorem walkB (wd ht : Int) (cs : List Int) (l0 : List S48) (x : S35) (A0 : Option Addr) (c0 : Nat) (A1 : Option Addr) (c1 : Nat) (w : World) (hr0 : Kd.C (Kd.int .i64) w A0 cs.length cs) (hc0 : cs.length ≤ c0) (hr1 : Kd.C k48 w A1 l0.length l0) (hc1 : l0.length ≤ c1) (r r2 : Int) (hz : laws_szChart.f wd ht cs 1048576 = some r) (hr : ¬ r < 0) (hz2 : laws_szFlawS.f l0 r = some r2) (hr2 : r2 < 0) : Calls Try.prog 4 #[.agg #[.int .i64 wd, .int .i64 ht, .slice A0 cs.length c0], .slice A1 l0.length c1, .agg #[.int .i64 x.f0, .int .i64 x.f1, .int .i64 x.f2, .int .i64 x.f3]] w fun e w' => e = .returned (.bool true) ∧ Below w.heap.size w w' := by
  refine enterW (args := [.agg #[.int .i64 wd, .int .i64 ht, .slice A0 cs.length c0], .slice A1 l0.length c1, .agg #[.int .i64 x.f0, .int .i64 x.f1, .int .i64 x.f2, .int .i64 x.f3]]) [(fun W => Kd.C (Kd.int .i64) W A0 cs.length cs), (fun W => Kd.C k48 W A1 l0.length l0)] (fun p hp W hb => by
    rcases List.mem_cons.1 hp with rfl | hp
    · exact Kd.C_below hr0 hb
    · rw [List.mem_singleton.1 hp]; exact Kd.C_below hr1 hb) Try.func4 rfl rfl ?_
  repeat (first
    | (apply gateO; first
      | refine Jl.yd (Y.mv rfl rfl) rfl rfl rfl ?_
      | refine Jl.yd (Y.asg rfl rfl) rfl rfl rfl ?_
      | refine Jl.yd (Y.ext rfl rfl rfl) rfl rfl rfl ?_
      | refine Jl.yd (Y.pickT rfl rfl rfl) rfl rfl rfl ?_
      | refine Jl.yd (Y.pickF rfl rfl rfl) rfl rfl rfl ?_
      | refine Jl.off rfl rfl rfl ?_
      | refine Jl.yd (Y.cmpF rfl rfl rfl rfl (by omega)) rfl rfl rfl ?_
      | refine Jl.yd (Y.cmpT rfl rfl rfl rfl (by omega)) rfl rfl rfl ?_
      | refine Jl.yd (Y.neqB rfl rfl rfl Try.underlying4) rfl rfl rfl ?_
      | refine Jl.yd (Y.cmp rfl rfl rfl rfl) rfl rfl rfl ?_
      | refine Jl.yd (Y.not rfl rfl) rfl rfl rfl ?_
      | refine Jl.yd (Y.arithN rfl rfl rfl rfl (by omega)) rfl rfl rfl ?_
      | refine Jl.yd (Y.arith64 rfl rfl rfl rfl) rfl rfl rfl ?_
      | refine Jl.yd (Y.loadA rfl rfl agg46 (by repeat (first | exact .head _ | refine .tail _ ?_)) (by rfl)) rfl rfl rfl ?_
      | refine Jl.yd (Y.loadA rfl rfl agg26 (by repeat (first | exact .head _ | refine .tail _ ?_)) (by rfl)) rfl rfl rfl ?_
      | refine Jl.alloc rfl rfl rfl rfl zero26 (fun g => ?_)
      | refine Jl.storeA rfl rfl rfl rfl rfl sz26 (by repeat (first | exact .z | apply SetAt.s)) (by rfl) (by rfl) ?_
      | refine Jl.call1 (v := .int .i64 r) rfl rfl rfl rfl en27 rfl (fun w hW => by with_reducible first | exact laws_szChart.calls wd ht _ _ cs 1048576 r w (hW.fact (p := (fun W => Kd.C (Kd.int .i64) W A0 cs.length cs)) (by repeat (first | exact memH | refine memT ?_))) hc0 hz | exact Calls.mono (laws_szChart.calls wd ht _ _ cs 1048576 r w (hW.fact (p := (fun W => Kd.C (Kd.int .i64) W A0 cs.length cs)) (by repeat (first | exact memH | refine memT ?_))) hc0 hz) (fun _ _ hh => ⟨hh.1, hh.2.below⟩)) ?_
      | refine Jl.call1 (v := .int .i64 r2) rfl rfl rfl rfl en28 rfl (fun w hW => by with_reducible first | exact laws_szFlawS.calls _ _ l0 r r2 w (hW.fact (p := (fun W => Kd.C k48 W A1 l0.length l0)) (by repeat (first | exact memH | refine memT ?_))) hc1 hz2 | exact Calls.mono (laws_szFlawS.calls _ _ l0 r r2 w (hW.fact (p := (fun W => Kd.C k48 W A1 l0.length l0)) (by repeat (first | exact memH | refine memT ?_))) hc1 hz2) (fun _ _ hh => ⟨hh.1, hh.2.below⟩)) ?_
      | refine Jl.box (zs := [.int .i64 x.f0, .int .i64 x.f1, .int .i64 x.f2, .int .i64 x.f3]) rfl rfl rfl rfl rfl (by rfl) (fun gx => ?_)
      | refine Jl.yd (Y.loadA rfl rfl agg48 (by repeat (first | exact .head _ | refine .tail _ ?_)) (by rfl)) rfl rfl rfl ?_
      | refine Jl.call1 (v := .agg #[.int .i64 x.f0, .int .i64 x.f1, .int .i64 x.f2, .int .i64 x.f3]) rfl rfl rfl rfl en31 rfl (fun w hW => by with_reducible exact laws_toFlaw.calls x.f0 x.f1 x.f2 x.f3 x.f0 x.f1 x.f2 x.f3 w rfl) ?_
      | refine Jl.box (zs := [.int .i64 wd, .int .i64 ht, .slice A0 cs.length c0]) rfl rfl rfl rfl rfl (by rfl) (fun g => ?_)
      | refine Jl.splitG rfl rfl (fun h => ?_) (fun h => ?_))
    | (apply gateE; first
      | refine Jl.nil (Ej.go ?_ (fun _ _ h => h))
      | (refine Jl.nil (Ej.back (fun _ _ h => h) (by repeat (first | exact .refl | apply DropTo.tail)) ?_); repeat (first | exact trivial | refine ⟨rfl, ?_⟩)))
    | (apply gateC; first
      | refine Cj.ret rfl (Ej.out1 (P := Try.prog) (fn := Try.f4) (R := fun e w' => e = .returned (.bool true) ∧ Below w.heap.size w w') (fun _ _ h => h) rfl rfl (fun w hW => ⟨rfl, hW.below⟩))
      | refine Cj.condF rfl rfl (Cj.skip rfl (Ej.go ?_ (fun _ _ h => h)))
      | (refine Cj.condF rfl rfl (Cj.skip rfl (Ej.back (fun _ _ h => h) (by repeat (first | exact .refl | apply DropTo.tail)) ?_)); repeat (first | exact trivial | refine ⟨rfl, ?_⟩))
      | refine Cj.condF rfl rfl ?_
      | refine Cj.condT rfl rfl ?_
      | refine Cj.exit rfl (Ej.go ?_ (fun _ _ h => h))
      | refine Cj.cond rfl rfl (fun h => ?_) (fun h => ?_)
      | refine Cj.skip rfl (Ej.go ?_ (fun _ _ h => h))
      | (refine Cj.skip rfl (Ej.back (fun _ _ h => h) (by repeat (first | exact .refl | apply DropTo.tail)) ?_); repeat (first | exact trivial | refine ⟨rfl, ?_⟩))
      | refine Cj.seq rfl ?_
      | refine Cj.region rfl ?_))

set_option maxHeartbeats 8000000 in
theorem walkC (wd ht : Int) (cs : List Int) (l0 : List S48) (x : S35) (A0 : Option Addr) (c0 : Nat) (A1 : Option Addr) (c1 : Nat) (w : World) (hr0 : Kd.C (Kd.int .i64) w A0 cs.length cs) (hc0 : cs.length ≤ c0) (hr1 : Kd.C k48 w A1 l0.length l0) (hc1 : l0.length ≤ c1) (r r2 : Int) (hz : laws_szChart.f wd ht cs 1048576 = some r) (hr : ¬ r < 0) (hz2 : laws_szFlawS.f l0 r = some r2) (hr2 : ¬ r2 < 0)
    (l l' : List S35) (cs' : List Int) (q : List S35) (qb : Bool) (qd : quQ wd ht cs l x = (q, qb)) (hlb : l.length ≤ 1048576) (hqb : q.length ≤ 1048576) (hcb : cs.length ≤ 1048576) (kt kh kc km kn kp kx : Nat) (r3 r4 : Int) (htc : laws_toChart.f kt wd ht cs = some (wd, ht, cs)) (hth : laws_toFlawS.f kh l0 = some l) (hqc : laws_eqChart.f kc wd ht cs wd ht cs = some true)
    (hmc : laws_markChart.f km wd ht cs 1 = some (r3, cs')) (hmh : laws_markFlawS.f kn l r3 = some (r4, l')) (hr4 : ¬ r4 < 0) (hmq : laws_markFlawS.f kp q 1 = some (((4 * q.length + 1 : Nat) : Int), marksF q.length)) (hhe : laws_heldFlawS.f kx (marksF q.length) 1 = some ((4 * q.length + 1 : Nat) : Int)) : Calls Try.prog 4 #[.agg #[.int .i64 wd, .int .i64 ht, .slice A0 cs.length c0], .slice A1 l0.length c1, .agg #[.int .i64 x.f0, .int .i64 x.f1, .int .i64 x.f2, .int .i64 x.f3]] w fun e w' => e = .returned (.bool true) ∧ Below w.heap.size w w' := by
  have sM := @sM wd ht cs l x
  have iM := @iM wd ht cs l x
  rw [qd] at sM iM
  dsimp only at sM iM
  refine enterW (args := [.agg #[.int .i64 wd, .int .i64 ht, .slice A0 cs.length c0], .slice A1 l0.length c1, .agg #[.int .i64 x.f0, .int .i64 x.f1, .int .i64 x.f2, .int .i64 x.f3]]) [(fun W => Kd.C (Kd.int .i64) W A0 cs.length cs), (fun W => Kd.C k48 W A1 l0.length l0)] (fun p hp W hb => by
    rcases List.mem_cons.1 hp with rfl | hp
    · exact Kd.C_below hr0 hb
    · rw [List.mem_singleton.1 hp]; exact Kd.C_below hr1 hb) Try.func4 rfl rfl ?_
  repeat (first
    | (apply gateO; first
      | refine Jl.yd (Y.mv rfl rfl) rfl rfl rfl ?_
      | refine Jl.yd (Y.asg rfl rfl) rfl rfl rfl ?_
      | refine Jl.yd (Y.ext rfl rfl rfl) rfl rfl rfl ?_
      | refine Jl.yd (Y.pickT rfl rfl rfl) rfl rfl rfl ?_
      | refine Jl.yd (Y.pickF rfl rfl rfl) rfl rfl rfl ?_
      | refine Jl.off rfl rfl rfl ?_
      | refine Jl.yd (Y.cmpF rfl rfl rfl rfl (by omega)) rfl rfl rfl ?_
      | refine Jl.yd (Y.cmpT rfl rfl rfl rfl (by omega)) rfl rfl rfl ?_
      | refine Jl.yd (Y.neqB rfl rfl rfl Try.underlying4) rfl rfl rfl ?_
      | refine Jl.yd (Y.cmp rfl rfl rfl rfl) rfl rfl rfl ?_
      | refine Jl.yd (Y.not rfl rfl) rfl rfl rfl ?_
      | refine Jl.yd (Y.arithN rfl rfl rfl rfl (by omega)) rfl rfl rfl ?_
      | refine Jl.yd (Y.arith64 rfl rfl rfl rfl) rfl rfl rfl ?_
      | refine Jl.yd (Y.loadA rfl rfl agg46 (by repeat (first | exact .head _ | refine .tail _ ?_)) (by rfl)) rfl rfl rfl ?_
      | refine Jl.yd (Y.loadA rfl rfl agg26 (by repeat (first | exact .head _ | refine .tail _ ?_)) (by rfl)) rfl rfl rfl ?_
      | refine Jl.alloc rfl rfl rfl rfl zero26 (fun g => ?_)
      | refine Jl.storeA rfl rfl rfl rfl rfl sz26 (by repeat (first | exact .z | apply SetAt.s)) (by rfl) (by rfl) ?_
      | refine Jl.call1 (v := .int .i64 r) rfl rfl rfl rfl en27 rfl (fun w hW => by with_reducible first | exact laws_szChart.calls wd ht _ _ cs 1048576 r w (hW.fact (p := (fun W => Kd.C (Kd.int .i64) W A0 cs.length cs)) (by repeat (first | exact memH | refine memT ?_))) hc0 hz | exact Calls.mono (laws_szChart.calls wd ht _ _ cs 1048576 r w (hW.fact (p := (fun W => Kd.C (Kd.int .i64) W A0 cs.length cs)) (by repeat (first | exact memH | refine memT ?_))) hc0 hz) (fun _ _ hh => ⟨hh.1, hh.2.below⟩)) ?_
      | refine Jl.call1 (v := .int .i64 r2) rfl rfl rfl rfl en28 rfl (fun w hW => by with_reducible first | exact laws_szFlawS.calls _ _ l0 r r2 w (hW.fact (p := (fun W => Kd.C k48 W A1 l0.length l0)) (by repeat (first | exact memH | refine memT ?_))) hc1 hz2 | exact Calls.mono (laws_szFlawS.calls _ _ l0 r r2 w (hW.fact (p := (fun W => Kd.C k48 W A1 l0.length l0)) (by repeat (first | exact memH | refine memT ?_))) hc1 hz2) (fun _ _ hh => ⟨hh.1, hh.2.below⟩)) ?_
      | refine Jl.callR 0 (fun v => .agg #[.int .i64 wd, .int .i64 ht, v]) rfl rfl rfl rfl en29 rfl (fun w hW => by with_reducible exact laws_toChart.calls kt wd ht _ _ cs wd ht cs w (hW.fact (p := (fun W => Kd.C (Kd.int .i64) W A0 cs.length cs)) (by repeat (first | exact memH | refine memT ?_))) hc0 htc) (fun A c hl => ?_)
      | refine Jl.callR 0 (fun v => v) rfl rfl rfl rfl en30 rfl (fun w hW => by with_reducible exact laws_toFlawS.calls kh _ _ l0 l w (hW.fact (p := (fun W => Kd.C k48 W A1 l0.length l0)) (by repeat (first | exact memH | refine memT ?_))) hc1 hth) (fun A c hl => ?_)
      | refine Jl.callR 0 (fun v => .tuple #[v, .bool qb]) rfl rfl rfl rfl en21 rfl (fun w hW => by with_reducible exact sM _ _ _ _ w (hW.rowC (by repeat (first | exact memH | refine memT ?_))) (hW.rowCap (by repeat (first | exact memH | refine memT ?_))).2 (hW.rowC (by repeat (first | exact memH | refine memT ?_))) (hW.rowCap (by repeat (first | exact memH | refine memT ?_))).2 hlb hcb) (fun A c hl => ?_)
      | refine Jl.callR 0 (fun v => .tuple #[v, .bool qb]) rfl rfl rfl rfl en20 rfl (fun w hW => by with_reducible exact iM _ _ _ _ w (hW.rowC (by repeat (first | exact memH | refine memT ?_))) (hW.rowCap (by repeat (first | exact memH | refine memT ?_))).2 (hW.rowC (by repeat (first | exact memH | refine memT ?_))) (hW.rowCap (by repeat (first | exact memH | refine memT ?_))).2 hlb) (fun A c hl => ?_)
      | refine Jl.call1 (v := .bool true) rfl rfl rfl rfl en32 rfl (fun w hW => by with_reducible exact eqAny (by with_reducible first | exact hlb | exact hqb) (hW.rowC (by repeat (first | exact memH | refine memT ?_))) (hW.rowCap (by repeat (first | exact memH | refine memT ?_))).2 (hW.rowC (by repeat (first | exact memH | refine memT ?_))) (hW.rowCap (by repeat (first | exact memH | refine memT ?_))).2) ?_
      | refine Jl.call1 (v := .bool true) rfl rfl rfl rfl en33 rfl (fun w hW => by with_reducible first | exact laws_eqChart.calls kc wd ht _ _ cs wd ht _ _ cs true w (hW.rowC (by repeat (first | exact memH | refine memT ?_))) (hW.rowCap (by repeat (first | exact memH | refine memT ?_))).2 (hW.rowC (by repeat (first | exact memH | refine memT ?_))) (hW.rowCap (by repeat (first | exact memH | refine memT ?_))).2 hqc | exact Calls.mono (laws_eqChart.calls kc wd ht _ _ cs wd ht _ _ cs true w (hW.rowC (by repeat (first | exact memH | refine memT ?_))) (hW.rowCap (by repeat (first | exact memH | refine memT ?_))).2 (hW.rowC (by repeat (first | exact memH | refine memT ?_))) (hW.rowCap (by repeat (first | exact memH | refine memT ?_))).2 hqc) (fun _ _ hh => ⟨hh.1, hh.2.below⟩)) ?_
      | refine Jl.callMc (r := .int .i64 r3) (fun v => .row (Kd.int .i64) 3 0 v cs) (fun v => .row (Kd.int .i64) 3 0 v cs') rfl rfl rfl rfl en34 rfl (by with_reducible first | exact .z | exact .s (.z) | exact .s (.s (.z)) | exact .s (.s (.s (.z))) | exact .s (.s (.s (.s (.z)))) | exact .s (.s (.s (.s (.s (.z))))) | exact .s (.s (.s (.s (.s (.s (.z)))))) | exact .s (.s (.s (.s (.s (.s (.s (.z))))))) | exact .s (.s (.s (.s (.s (.s (.s (.s (.z)))))))) | exact .s (.s (.s (.s (.s (.s (.s (.s (.s (.z))))))))) | exact .s (.s (.s (.s (.s (.s (.s (.s (.s (.s (.z)))))))))) | exact .s (.s (.s (.s (.s (.s (.s (.s (.s (.s (.s (.z))))))))))) | exact .s (.s (.s (.s (.s (.s (.s (.s (.s (.s (.s (.s (.z)))))))))))) | exact .s (.s (.s (.s (.s (.s (.s (.s (.s (.s (.s (.s (.s (.z))))))))))))) | exact .s (.s (.s (.s (.s (.s (.s (.s (.s (.s (.s (.s (.s (.s (.z)))))))))))))) | exact .s (.s (.s (.s (.s (.s (.s (.s (.s (.s (.s (.s (.s (.s (.s (.z))))))))))))))) | exact .s (.s (.s (.s (.s (.s (.s (.s (.s (.s (.s (.s (.s (.s (.s (.s (.z)))))))))))))))) | exact .s (.s (.s (.s (.s (.s (.s (.s (.s (.s (.s (.s (.s (.s (.s (.s (.s (.z))))))))))))))))) | exact .s (.s (.s (.s (.s (.s (.s (.s (.s (.s (.s (.s (.s (.s (.s (.s (.s (.s (.z)))))))))))))))))) | exact .s (.s (.s (.s (.s (.s (.s (.s (.s (.s (.s (.s (.s (.s (.s (.s (.s (.s (.s (.z)))))))))))))))))))) (fun w A hW hA => of_kept hA (fun P0 w0 hB hR => laws_markChart.calls km wd ht P0 _ cs _ _ _ w0 w hB hR hmc)) ?_
      | refine Jl.callMv (v := .int .i64 r4) (fun v => .row k35 35 0 v l) (fun v => .row k35 35 0 v l') rfl rfl rfl rfl en35 rfl (by with_reducible first | exact .z | exact .s (.z) | exact .s (.s (.z)) | exact .s (.s (.s (.z))) | exact .s (.s (.s (.s (.z)))) | exact .s (.s (.s (.s (.s (.z))))) | exact .s (.s (.s (.s (.s (.s (.z)))))) | exact .s (.s (.s (.s (.s (.s (.s (.z))))))) | exact .s (.s (.s (.s (.s (.s (.s (.s (.z)))))))) | exact .s (.s (.s (.s (.s (.s (.s (.s (.s (.z))))))))) | exact .s (.s (.s (.s (.s (.s (.s (.s (.s (.s (.z)))))))))) | exact .s (.s (.s (.s (.s (.s (.s (.s (.s (.s (.s (.z))))))))))) | exact .s (.s (.s (.s (.s (.s (.s (.s (.s (.s (.s (.s (.z)))))))))))) | exact .s (.s (.s (.s (.s (.s (.s (.s (.s (.s (.s (.s (.s (.z))))))))))))) | exact .s (.s (.s (.s (.s (.s (.s (.s (.s (.s (.s (.s (.s (.s (.z)))))))))))))) | exact .s (.s (.s (.s (.s (.s (.s (.s (.s (.s (.s (.s (.s (.s (.s (.z))))))))))))))) | exact .s (.s (.s (.s (.s (.s (.s (.s (.s (.s (.s (.s (.s (.s (.s (.s (.z)))))))))))))))) | exact .s (.s (.s (.s (.s (.s (.s (.s (.s (.s (.s (.s (.s (.s (.s (.s (.s (.z))))))))))))))))) | exact .s (.s (.s (.s (.s (.s (.s (.s (.s (.s (.s (.s (.s (.s (.s (.s (.s (.s (.z)))))))))))))))))) | exact .s (.s (.s (.s (.s (.s (.s (.s (.s (.s (.s (.s (.s (.s (.s (.s (.s (.s (.s (.z)))))))))))))))))))) (fun w A hW hA => of_kept hA (fun P0 w0 hB hR => by with_reducible exact laws_markFlawS.calls kn P0 _ l _ _ _ w0 w hB hR hmh)) ?_
      | refine Jl.callMv (v := .int .i64 ((4 * q.length + 1 : Nat) : Int)) (fun v => .row k35 35 0 v q) (fun v => .row k35 35 0 v (marksF q.length)) rfl rfl rfl rfl en35 rfl (by with_reducible first | exact .z | exact .s (.z) | exact .s (.s (.z)) | exact .s (.s (.s (.z))) | exact .s (.s (.s (.s (.z)))) | exact .s (.s (.s (.s (.s (.z))))) | exact .s (.s (.s (.s (.s (.s (.z)))))) | exact .s (.s (.s (.s (.s (.s (.s (.z))))))) | exact .s (.s (.s (.s (.s (.s (.s (.s (.z)))))))) | exact .s (.s (.s (.s (.s (.s (.s (.s (.s (.z))))))))) | exact .s (.s (.s (.s (.s (.s (.s (.s (.s (.s (.z)))))))))) | exact .s (.s (.s (.s (.s (.s (.s (.s (.s (.s (.s (.z))))))))))) | exact .s (.s (.s (.s (.s (.s (.s (.s (.s (.s (.s (.s (.z)))))))))))) | exact .s (.s (.s (.s (.s (.s (.s (.s (.s (.s (.s (.s (.s (.z))))))))))))) | exact .s (.s (.s (.s (.s (.s (.s (.s (.s (.s (.s (.s (.s (.s (.z)))))))))))))) | exact .s (.s (.s (.s (.s (.s (.s (.s (.s (.s (.s (.s (.s (.s (.s (.z))))))))))))))) | exact .s (.s (.s (.s (.s (.s (.s (.s (.s (.s (.s (.s (.s (.s (.s (.s (.z)))))))))))))))) | exact .s (.s (.s (.s (.s (.s (.s (.s (.s (.s (.s (.s (.s (.s (.s (.s (.s (.z))))))))))))))))) | exact .s (.s (.s (.s (.s (.s (.s (.s (.s (.s (.s (.s (.s (.s (.s (.s (.s (.s (.z)))))))))))))))))) | exact .s (.s (.s (.s (.s (.s (.s (.s (.s (.s (.s (.s (.s (.s (.s (.s (.s (.s (.s (.z)))))))))))))))))))) (fun w A hW hA => of_kept hA (fun P0 w0 hB hR => by with_reducible exact laws_markFlawS.calls kp P0 _ q _ _ _ w0 w hB hR hmq)) ?_
      | refine Jl.call1 (v := .int .i64 ((4 * q.length + 1 : Nat) : Int)) rfl rfl rfl rfl en36 rfl (fun w hW => by with_reducible first | exact held_n (hW.rowCap (by repeat (first | exact memH | refine memT ?_))).1 (hW.rowC (by repeat (first | exact memH | refine memT ?_))) (hW.rowCap (by repeat (first | exact memH | refine memT ?_))).2 hhe | exact Calls.mono (held_n (hW.rowCap (by repeat (first | exact memH | refine memT ?_))).1 (hW.rowC (by repeat (first | exact memH | refine memT ?_))) (hW.rowCap (by repeat (first | exact memH | refine memT ?_))).2 hhe) (fun _ _ hh => ⟨hh.1, hh.2.below⟩)) ?_
      | refine Jl.box (zs := [.int .i64 x.f0, .int .i64 x.f1, .int .i64 x.f2, .int .i64 x.f3]) rfl rfl rfl rfl rfl (by rfl) (fun gx => ?_)
      | refine Jl.yd (Y.loadA rfl rfl agg48 (by repeat (first | exact .head _ | refine .tail _ ?_)) (by rfl)) rfl rfl rfl ?_
      | refine Jl.call1 (v := .agg #[.int .i64 x.f0, .int .i64 x.f1, .int .i64 x.f2, .int .i64 x.f3]) rfl rfl rfl rfl en31 rfl (fun w hW => by with_reducible exact laws_toFlaw.calls x.f0 x.f1 x.f2 x.f3 x.f0 x.f1 x.f2 x.f3 w rfl) ?_
      | refine Jl.box (zs := [.int .i64 wd, .int .i64 ht, .slice A0 cs.length c0]) rfl rfl rfl rfl rfl (by rfl) (fun g => ?_)
      | refine Jl.splitG rfl rfl (fun h => ?_) (fun h => ?_))
    | (apply gateE; first
      | refine Jl.nil (Ej.go ?_ (fun _ _ h => h))
      | (refine Jl.nil (Ej.back (fun _ _ h => h) (by repeat (first | exact .refl | apply DropTo.tail)) ?_); repeat (first | exact trivial | refine ⟨rfl, ?_⟩)))
    | (apply gateC; first
      | refine Cj.regionD rfl (mkD [0, 1, 2, 7, 8, 9, 10, 11] []) [] [0, 2, 4, 1, 3, 5, 6, 7, 8, 9, 10, 11] mixed (by decide +kernel) ?_
      | refine Cj.regionD rfl (mkD [0, 1, 2, 5, 6, 7, 8, 9] []) [] [0, 1, 2, 3, 4, 5, 6, 7, 8, 9] mixed (by decide +kernel) ?_
      | refine Cj.regionD rfl (mkD [0, 1, 4] []) [] [0, 1, 2, 3, 4] mixed (by decide +kernel) ?_
      | refine Cj.ret rfl (Ej.out1 (P := Try.prog) (fn := Try.f4) (R := fun e w' => e = .returned (.bool true) ∧ Below w.heap.size w w') (fun _ _ h => h) rfl rfl (fun w hW => ⟨rfl, hW.below⟩))
      | refine Cj.condF rfl rfl (Cj.skip rfl (Ej.go ?_ (fun _ _ h => h)))
      | (refine Cj.condF rfl rfl (Cj.skip rfl (Ej.back (fun _ _ h => h) (by repeat (first | exact .refl | apply DropTo.tail)) ?_)); repeat (first | exact trivial | refine ⟨rfl, ?_⟩))
      | refine Cj.condF rfl rfl ?_
      | refine Cj.condT rfl rfl ?_
      | refine Cj.exit rfl (Ej.go ?_ (fun _ _ h => h))
      | refine Cj.cond rfl rfl (fun h => ?_) (fun h => ?_)
      | refine Cj.skip rfl (Ej.go ?_ (fun _ _ h => h))
      | (refine Cj.skip rfl (Ej.back (fun _ _ h => h) (by repeat (first | exact .refl | apply DropTo.tail)) ?_); repeat (first | exact trivial | refine ⟨rfl, ?_⟩))
      | refine Cj.seq rfl ?_
      | refine Cj.region rfl ?_))

/-- The program's FirstMended returns what the reference's returns. -/
theorem full (wd ht : Int) (cs : List Int) (l0 : List S48) (x : S35) (A0 : Option Addr) (c0 : Nat) (A1 : Option Addr) (c1 : Nat) (w : World) (hr0 : Kd.C (Kd.int .i64) w A0 cs.length cs) (hc0 : cs.length ≤ c0) (hr1 : Kd.C k48 w A1 l0.length l0) (hc1 : l0.length ≤ c1) (hm0 : cs.length ≤ maxLen) (hm1 : l0.length ≤ maxLen) : Calls Try.prog 4 #[.agg #[.int .i64 wd, .int .i64 ht, .slice A0 cs.length c0], .slice A1 l0.length c1, .agg #[.int .i64 x.f0, .int .i64 x.f1, .int .i64 x.f2, .int .i64 x.f3]] w fun e w' => e = .returned (.bool true) ∧ Below w.heap.size w w' := by
  obtain ⟨r, hz, hr⟩ := szChart wd ht cs 1048576 hm0 (by omega)
  by_cases h1 : r < 0
  · exact walkA wd ht cs l0 x A0 c0 A1 c1 w hr0 hc0 hr1 hc1 r hz h1
  obtain ⟨h2, h3, hcs⟩ := hr.resolve_left h1
  obtain ⟨r2, hz2, hr2⟩ := szFlaws l0 r hm1 ⟨h2, h3⟩
  by_cases h4 : r2 < 0
  · exact walkB wd ht cs l0 x A0 c0 A1 c1 w hr0 hc0 hr1 hc1 r r2 hz h1 hz2 h4
  obtain ⟨_, _, hls⟩ := hr2.resolve_left h4
  obtain ⟨kt, e1⟩ := (toChart wd ht cs hcs).rounds
  obtain ⟨kh, e2⟩ := (toFlaws l0 hls).rounds
  have hl : (l0.map cvFlaw).length ≤ 1048576 := by simpa using hls
  generalize l0.map cvFlaw = l at e2 hl
  have hql0 := quQ_len wd ht cs l x
  obtain ⟨⟨q, qb⟩, qd⟩ : ∃ q, quQ wd ht cs l x = q := ⟨_, rfl⟩
  rw [qd] at hql0
  have hql : q.length ≤ 1048576 := Nat.le_trans hql0 (by omega)
  obtain ⟨ke, e5⟩ := (eqFlaws q hql).rounds
  obtain ⟨kc, e6⟩ := (eqChart wd ht cs hcs).rounds
  obtain ⟨kq, e7⟩ := (eqFlaws l hl).rounds
  obtain ⟨p3, f1, hM⟩ := markChart wd ht cs hcs 1 (by omega)
  obtain ⟨km, e8⟩ := hM.rounds
  obtain ⟨l', hN⟩ := markFlaws l hl (1 + cs.length) (by omega)
  obtain ⟨kn, e9⟩ := hN.rounds
  obtain ⟨kp, e10⟩ := (markFlawsX q hql).rounds
  obtain ⟨kx, e11⟩ := (heldFlawsX q.length hql).rounds
  rw [← f1] at e9
  exact walkC wd ht cs l0 x A0 c0 A1 c1 w hr0 hc0 hr1 hc1 r r2 hz h1 hz2 h4 l l' p3.2 q qb qd hl hql hcs kt kh kc km kn kp kx p3.1 _ e1 e2 e6 e8 e9 (by omega) e10 e11
end NFL
end Go.Proofs.Ytkglpfdoefdhdaa.WK

namespace Go.Proofs.Ytkglpfdoefdhdaa.Wk
open Go Go.RowKit Go.Proofs.Ytkglpfdoefdhdaa.Q Go.Proofs.Ytkglpfdoefdhdaa.WK Go.Proofs.YtkglpfdoefdhdaaW.PrintWords
theorem FnExactNoteFlaw : laws_FnExactNoteFlaw.Goal := fun wd ht cs l0 x0 x1 x2 x3 A0 c0 A1 c1 w hr0 hc0 hr1 hc1 q0 q1 _ => NFL.full wd ht cs l0 ⟨x0, x1, x2, x3⟩ A0 c0 A1 c1 w hr0 hc0 hr1 hc1 q0.2.2.1 q1.1
end Go.Proofs.Ytkglpfdoefdhdaa.Wk

namespace Go.Proofs.Ytkglpfdoefdhdaa.fnExactNoteFlaw
open Go.ChangeShapes Go.WideShapes Go.ChangeAt Go.RowKit Go.Proofs.Ytkglpfdoefdhdaa.Q Go.Proofs.YtkglpfdoefdhdaaW.Open Go.Proofs.YtkglpfdoefdhdaaW.PrintWords
set_option linter.unusedVariables false
theorem own : ownKnob Try.prog.godebug = none := by kernel_rfl
theorem laidOut : laidOutB Try.prog = true := by kernel_rfl
set_option maxRecDepth 100000 in
theorem lifted (os : Os) (started : os.Started) (H : Type) (enc : TypeId × Value → H) :
    ReturnsInHanded {} Try.checked os 4 .any (Rows.fnExactNoteFlawSpec.pre6 enc Try.prog Try.f4 Rows.fnExactNoteFlawRow.domain false) (Rows.fnExactNoteFlawSpec.post enc Try.prog Try.f4 false true false false) := by
  refine returnsInHanded_of_change_sized (C := Try.checked) own started (by kernel_rfl) Try.func4
    (ChangeSpec.witness6 (enc := enc) (C := Try.checked) false ⟨#[], #[.agg #[.int .i64 0, .int .i64 0, .slice none 0 0], .slice none 0 0, .agg #[.int .i64 0, .int .i64 0, .int .i64 0, .int .i64 0]], []⟩ 8 (by kernel_rfl) (by kernel_rfl) (by kernel_rfl) (by kernel_rfl)) ?_
  intro W base args ds gs before hval0 hW hcnd hsz0 _
  have hval : ∀ (j : Nat) t v, Try.f4.params[j]? = some t → args[j]? = some v → Value.okWide Try.prog W .any base t v := hval0
  have hW' := hW
  obtain ⟨p, q, hA0, hV, rfl, hfz, hnd⟩ := hW
  have hA : DataW.TrodAll enc Try.prog W 0 (fun _ => true) true Try.f4.params.toList args.toList ds p := hA0
  rw [Try.params4] at hA hval
  obtain ⟨v0, vs0, d0, ds0, p0, q0, hargs, rfl, rfl, h0, r0⟩ := trodAll_cons hA
  obtain ⟨v1, vs1, d1, ds1, p1, q1, rfl, rfl, rfl, h1, r1⟩ := trodAll_cons r0
  obtain ⟨v2, vs2, d2, ds2, p2, q2, rfl, rfl, rfl, h2, r2⟩ := trodAll_cons r1
  obtain ⟨rfl, rfl, rfl⟩ := trodAll_nil r2
  obtain rfl : args = #[v0, v1, v2] := by cases args; simp_all
  obtain ⟨rfl, rfl⟩ := trodVars_none hV
  have k0 := h0
  have lt0 : ∀ x ∈ p0, x.block < W.heap.size := by obtain ⟨m, hm⟩ := k0; exact DataW.trod_lt m _ _ _ hm
  obtain ⟨cs0, rfl, _⟩ := okWide_struct Try.underlying46 (hval 0 46 v0 rfl rfl)
  obtain ⟨fu0, hf0⟩ := h0
  obtain ⟨x0, hk0, q0⟩ := (opn46).out hf0
  have ho0 := k46_open hk0
  obtain ⟨A0_2, c0_2, ho0, hc0_2, hr0_2⟩ := ho0
  obtain rfl : cs0 = #[.int .i64 x0.f0, .int .i64 x0.f1, .slice A0_2 x0.f2.length c0_2] := by cases cs0; simpa [Value.cells] using ho0
  have k1 := h1
  have lt1 : ∀ x ∈ p1, x.block < W.heap.size := by obtain ⟨m, hm⟩ := k1; exact DataW.trod_lt m _ _ _ hm
  obtain ⟨a1, len1, cap1, rfl⟩ := okWide_slice Try.underlying47 (hval 1 47 v1 rfl rfl)
  obtain ⟨fu1, hf1⟩ := h1
  obtain ⟨x1, ⟨A1, c1, hk1, hc1, hr1⟩, q1⟩ := ((Opn.slice Try.underlying47 (n0 := 4) (by kernel_rfl) rfl opn48)).out hf1
  simp [Value.cells] at hk1
  obtain ⟨rfl, rfl, rfl⟩ := hk1
  have k2 := h2
  have lt2 : ∀ x ∈ p2, x.block < W.heap.size := by obtain ⟨m, hm⟩ := k2; exact DataW.trod_lt m _ _ _ hm
  obtain ⟨cs2, rfl, _⟩ := okWide_struct Try.underlying48 (hval 2 48 v2 rfl rfl)
  obtain ⟨fu2, hf2⟩ := h2
  obtain ⟨x2, hk2, q2⟩ := (opn48).out hf2
  have ho2 := k48_open hk2
  obtain rfl : cs2 = #[.int .i64 x2.f0, .int .i64 x2.f1, .int .i64 x2.f2, .int .i64 x2.f3] := by cases cs2; simpa [Value.cells] using ho2
  refine (Go.Proofs.Ytkglpfdoefdhdaa.Wk.FnExactNoteFlaw x0.f0 x0.f1 x0.f2 x1 x2.f0 x2.f1 x2.f2 x2.f3 A0_2 c0_2 _ _ W hr0_2 hc0_2 hr1 hc1 q0 q1 q2).mono fun e W' ⟨he, bel⟩ => ?_
  subst he
  exact ⟨_, rfl, _, _, _, [], _, [], hW', trodAll_mk1 (shut_bool Try.underlying4 _), (trodAll_cons_mk (Below.trod laidOut (by kernel_rfl) (of_decide_eq_true (by kernel_rfl)) k0 bel lt0) (trodAll_cons_mk (Below.trod laidOut (by kernel_rfl) (of_decide_eq_true (by kernel_rfl)) k1 bel lt1) (trodAll_cons_mk (Below.trod laidOut (by kernel_rfl) (of_decide_eq_true (by kernel_rfl)) k2 bel lt2) trodAll_mk0))), rfl, bel.frame _, fun h => by cases h⟩
theorem over : Rows.fnExactNoteFlawRow.holds Try.pinned (OpenSpec.ofChange Rows.fnExactNoteFlawSpec) :=
  OpenClaim.holds_of_wide 4 Try.f4 rfl rfl rfl rfl rfl rfl rfl ⟨rfl, rfl, rfl, rfl, rfl⟩ rfl rfl rfl rfl rfl (by kernel_rfl) Try.func4 (by kernel_rfl)
    (of_decide_eq_true (by kernel_rfl)) (by unfold Func.isWrapper; first | (rw [if_pos (by decide +kernel)]; kernel_rfl) | (rw [if_neg (by decide +kernel)]; exact ⟨rfl, rfl⟩))
    (fun os started H enc _ => lifted os started H enc)
theorem proved : Rows.FnExactNoteFlawSaid := over
end Go.Proofs.Ytkglpfdoefdhdaa.fnExactNoteFlaw
namespace Go.Proofs.Ytkglpfdoefdhdaa
/-- The row, under a short name, for the claim. -/
theorem fnExactNoteFlaw_holds : Rows.FnExactNoteFlawSaid := fnExactNoteFlaw.proved
end Go.Proofs.Ytkglpfdoefdhdaa

#print axioms Go.Proofs.Ytkglpfdoefdhdaa.fnExactNoteFlaw_holds
