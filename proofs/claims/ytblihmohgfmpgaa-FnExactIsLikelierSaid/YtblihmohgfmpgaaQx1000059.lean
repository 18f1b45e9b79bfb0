-- Written by a program of this session (wip/tools/pp.sh); Lean checks it.
import Derived.Test.YtblihmohgfmpgaaQx0
import Derived.Test.YtblihmohgfmpgaaQx8888801
namespace Go.Proofs.Ytblihmohgfmpgaa.Q
open Go.RowKit Go.Proofs.YtblihmohgfmpgaaW.PrintWords Go.Proofs.YtblihmohgfmpgaaW.PrintLast Go.Proofs.YtblihmohgfmpgaaW.PrintMore
attribute [local go_sem] max2_int min2_int max_two min_two max_three min_three max_four min_four   -- for this text's walks alone
set_option linter.unusedVariables false
set_option linter.unusedSimpArgs false

/-! ### impl_School_59__impl_AreSchools_1: function 1000059 -/
abbrev D0_1000059 : Array Bool := #[false, false, false, false, false, false, false, false, false, false, false, false, false, false]
abbrev D1_1000059 : Array Bool := #[true, false, false, false, false, false, false, false, false, false, false, false, false, false]
abbrev D2_1000059 : Array Bool := #[true, true, false, false, false, false, false, false, false, false, false, false, false, false]
abbrev D3_1000059 : Array Bool := #[true, true, true, false, false, false, false, false, false, false, false, false, false, false]
abbrev D4_1000059 : Array Bool := #[true, true, true, true, false, false, false, false, false, false, false, false, false, false]
abbrev D5_1000059 : Array Bool := #[true, true, true, true, true, false, false, false, false, false, false, false, false, false]
abbrev D6_1000059 : Array Bool := #[true, true, true, true, true, false, false, true, false, false, false, false, false, false]
abbrev D7_1000059 : Array Bool := #[true, true, true, true, true, false, false, true, true, false, false, false, false, false]
abbrev D8_1000059 : Array Bool := #[true, true, true, true, true, false, false, true, true, true, false, false, false, false]
abbrev D9_1000059 : Array Bool := #[true, true, true, true, true, false, false, true, true, true, true, false, false, false]
abbrev D10_1000059 : Array Bool := #[true, true, true, true, true, true, false, true, true, true, true, false, false, false]
abbrev D11_1000059 : Array Bool := #[true, true, true, true, true, true, false, true, true, true, true, true, false, false]
abbrev D12_1000059 : Array Bool := #[true, true, true, true, true, true, true, true, true, true, true, true, false, false]
abbrev D13_1000059 : Array Bool := #[true, true, true, true, true, true, true, true, true, true, true, true, true, false]
abbrev D14_1000059 : Array Bool := #[true, true, true, true, true, true, true, true, true, true, true, true, true, true]
def impl_School_59__impl_AreSchools_1.l0 : Nat → List (S69) → Int → Option (Bool)
 | 0, _, _ => none
 | k + 1, x0, x5 => if x5 < (x0.length : Int) then (if 0 ≤ (wrap64 (x5 - 1)) then (if (wrap64 (x5 - 1)) < (x0.length : Int) then ((impl_AreSchools_1.f ((rd_T69 x0 (wrap64 (x5 - 1))).f0) ((rd_T69 x0 (wrap64 (x5 - 1))).f1) ((rd_T69 x0 (wrap64 (x5 - 1))).f2) ((rd_T69 x0 (wrap64 (x5 - 1))).f3)).bind fun t147 => (if 0 ≤ x5 then ((impl_AreSchools_1.f ((rd_T69 x0 x5).f0) ((rd_T69 x0 x5).f1) ((rd_T69 x0 x5).f2) ((rd_T69 x0 x5).f3)).bind fun t149 => (if t147 ≥ t149 then (some false) else (impl_School_59__impl_AreSchools_1.l0 k x0 (wrap64 (x5 + 1))))) else (none))) else (none)) else (none)) else (some true)
def impl_School_59__impl_AreSchools_1.f (k : Nat) (l0 : List (S69))  : Option (Bool) := impl_School_59__impl_AreSchools_1.l0 k l0 1
theorem impl_School_59__impl_AreSchools_1.mono_l : ∀ k, (∀ y0 y1, LeO (impl_School_59__impl_AreSchools_1.l0 k y0 y1) (impl_School_59__impl_AreSchools_1.l0 (k + 1) y0 y1))
 | 0 => fun _ _ r h => by simp [impl_School_59__impl_AreSchools_1.l0] at h
 | k + 1 => by
  have ih0 := impl_School_59__impl_AreSchools_1.mono_l k
  ·intro y0 y1
   unfold impl_School_59__impl_AreSchools_1.l0
   repeat' first
   | (with_reducible exact ih0 _ _)
   | (with_reducible exact LeO.refl _)
   | (with_reducible exact LeO.none _)
   | (with_reducible refine LeO.ite ?_ ?_)
   | (with_reducible refine LeO.bind ?_ (fun _ => ?_))
   | exact ih0 _ _
   | exact LeO.none _
   | refine LeO.ite ?_ ?_
   | refine LeO.bind ?_ (fun _ => ?_)
theorem impl_School_59__impl_AreSchools_1.mono : ∀ a0 k, LeO (impl_School_59__impl_AreSchools_1.f k a0) (impl_School_59__impl_AreSchools_1.f (k + 1) a0) := by
 intro a0 k
 have ih0 := impl_School_59__impl_AreSchools_1.mono_l k
 unfold impl_School_59__impl_AreSchools_1.f
 repeat' first
   | (with_reducible exact ih0 _ _)
   | (with_reducible exact LeO.refl _)
   | (with_reducible exact LeO.none _)
   | (with_reducible refine LeO.ite ?_ ?_)
   | (with_reducible refine LeO.bind ?_ (fun _ => ?_))
   | exact ih0 _ _
   | exact LeO.none _
   | refine LeO.ite ?_ ?_
   | refine LeO.bind ?_ (fun _ => ?_)
def impl_School_59__impl_AreSchools_1.T4 : Bool × List (List Nat × List Nat) := (true, [([], []), ([], []), ([], []), ([2], [2]), ([1, 3], [1, 3]), ([4], [4]), ([0, 5], [0, 5]), ([], []), ([], []), ([], []), ([8, 9], [8, 9]), ([10], [10]), ([7, 11, 6], [7, 11]), ([6, 12], [6, 12])])
def impl_School_59__impl_AreSchools_1.B4 : List Nat := [0, 0, 0, 4, 14, 30, 63, 0, 0, 0, 768, 1792, 4095, 8191]
theorem impl_School_59__impl_AreSchools_1.tab4 : rtab .any (opsOf Try.f59 4) = impl_School_59__impl_AreSchools_1.T4 := by kernel_rfl
theorem impl_School_59__impl_AreSchools_1.bits4 : waitsOk impl_School_59__impl_AreSchools_1.T4.2 impl_School_59__impl_AreSchools_1.B4 = true := by kernel_rfl
set_option maxHeartbeats 8000000 in
set_option maxRecDepth 100000 in
theorem impl_School_59__impl_AreSchools_1.calls (k : Nat) (A0 : Option Addr) (c0 : Nat) (l0 : List (S69))  (r : Bool) (w : World) (hr0 : Kd.C k69 w A0 l0.length l0) (hc0 : l0.length ≤ c0) (h : impl_School_59__impl_AreSchools_1.f k l0 = some r) :
  Calls Try.prog 59 #[.slice A0 l0.length c0, .func (.func 60) #[] #[]] w fun e w' => e = .returned (.bool r) ∧ Below w.heap.size w w' := by
 have hu69 := Try.underlying69
 have HR0 := Aside0.mk hr0
 have HC0 := Aside0.mk hc0
 clear hr0 hc0
 have HB := Aside0.mk (Below.refl w.heap.size w)
 have H : (impl_School_59__impl_AreSchools_1.l0 k l0 1) = some r := h
 clear h
 have H' := Aside0.mk H
 clear H
 go_enter Try.func59, Try.ntmps59
 go_wp2
 go_loopg [5] k (fun kq v5 w' => ∃ (x5_1 : Int), v5 = .int .i64 x5_1 ∧ Aside0 (impl_School_59__impl_AreSchools_1.l0 kq l0 x5_1 = some r) ∧ Aside0 (kq ≤ k) ∧ Aside0 (Below w.heap.size w w'))
 case atStart => exact ⟨(1), (by first | rfl | (simp; done) | (simp [*]; done)), H', ⟨Nat.le_refl _⟩, ⟨by repeat (first | (with_reducible first | exact HB.out | apply below_alloc | apply pw_below_drewN | apply below_drew1) | exact HB.out)⟩⟩
 case round =>
  clear H'
  try clear p2
  obtain ⟨x5_1, rfl, HA, HK1, HB⟩ := hrel
  cases gk with
  | zero => exact absurd HA.out (by simp [impl_School_59__impl_AreSchools_1.l0])
  | succ k1 =>
   have H := HA.out
   clear HA
   simp only [impl_School_59__impl_AreSchools_1.l0] at H
   by_cases c3 : x5_1 < (l0.length : Int)
   ·rw [if_pos c3] at H
    have c3b0 : decide (x5_1 < (l0.length : Int)) = true := decide_eq_true c3
    clear c3
    obtain ⟨ji4, hji4⟩ : ∃ j_ : Int, (wrap64 (x5_1 - 1)) = j_ := ⟨_, rfl⟩
    replace H : (if 0 ≤ (ji4) then (if (ji4) < (l0.length : Int) then ((impl_AreSchools_1.f ((rd_T69 l0 (ji4)).f0) ((rd_T69 l0 (ji4)).f1) ((rd_T69 l0 (ji4)).f2) ((rd_T69 l0 (ji4)).f3)).bind fun t147 => (if 0 ≤ x5_1 then ((impl_AreSchools_1.f ((rd_T69 l0 x5_1).f0) ((rd_T69 l0 x5_1).f1) ((rd_T69 l0 x5_1).f2) ((rd_T69 l0 x5_1).f3)).bind fun t149 => (if t147 ≥ t149 then (some false) else (impl_School_59__impl_AreSchools_1.l0 k1 l0 (wrap64 (x5_1 + 1))))) else (none))) else (none)) else (none)) = some r := by first | (rw [hji4] at H; exact H) | (simp only [hji4] at H ⊢; exact H)
    have hji4w : (IntKind.i64.wrap (x5_1 - 1)) = ji4 := (i64_w _).trans hji4
    by_cases c5 : 0 ≤ (ji4)
    ·rw [if_pos c5] at H
     have c5b0 : decide (0 ≤ (ji4)) = true := decide_eq_true c5
     clear c5
     by_cases c6 : (ji4) < (l0.length : Int)
     ·rw [if_pos c6] at H
      have c6b0 : decide ((ji4) < (l0.length : Int)) = true := decide_eq_true c6
      clear c6
      replace H := Option.bind_eq_some_iff.mp H
      obtain ⟨t147, A70, H⟩ := H
      have A7 := Aside0.mk A70
      clear A70
      by_cases c8 : 0 ≤ x5_1
      ·rw [if_pos c8] at H
       have c8b0 : decide (0 ≤ x5_1) = true := decide_eq_true c8
       clear c8
       replace H := Option.bind_eq_some_iff.mp H
       obtain ⟨t149, A90, H⟩ := H
       have A9 := Aside0.mk A90
       clear A90
       by_cases c10 : t147 ≥ t149
       ·rw [if_pos c10] at H
        have c10b0 : decide (t149 ≤ t147) = true := decide_eq_true c10
        clear c10
        obtain rfl := Option.some.inj H
        try go_wp2
        have n0_ := Aside0.mk (below_drew1 HB.out)
        clear HB
        have HB := n0_
        clear n0_
        have p146 : 0 ≤ ((ji4) : Int) := of_decide_eq_true (by first | (with_reducible assumption) | assumption)
        have q146 : (ji4) < (l0.length : Int) := of_decide_eq_true (by first | (with_reducible assumption) | assumption)
        obtain ⟨ad146, A146_1, c146_1, e146, hx146_0, hx146_1, hx146_2, hx146_3, hl146_1, hi146_1⟩ := at_T69 HR0.out (ji4) p146 q146
        have hw146_3 := hx146_3
        have hw146_2 := hx146_2
        have hw146_1 := hx146_1
        have hw146_0 := hx146_0
        cases e146
        replace hx146_0 := (HB.out.cell (World.block_lt_of_cell? w _ hx146_0)).trans hx146_0
        replace hx146_1 := (HB.out.cell (World.block_lt_of_cell? w _ hx146_1)).trans hx146_1
        replace hx146_2 := (HB.out.cell (World.block_lt_of_cell? w _ hx146_2)).trans hx146_2
        replace hx146_3 := (HB.out.cell (World.block_lt_of_cell? w _ hx146_3)).trans hx146_3
        have HR146_1 := Aside0.mk hi146_1
        have HC146_1 := Aside0.mk hl146_1
        clear hi146_1 hl146_1
        replace p146 := eq_true p146
        replace q146 := eq_true q146
        have p148 : 0 ≤ (x5_1 : Int) := of_decide_eq_true (by first | (with_reducible assumption) | assumption)
        have q148 : x5_1 < (l0.length : Int) := of_decide_eq_true (by first | (with_reducible assumption) | assumption)
        obtain ⟨ad148, A148_1, c148_1, e148, hx148_0, hx148_1, hx148_2, hx148_3, hl148_1, hi148_1⟩ := at_T69 HR0.out x5_1 p148 q148
        have hw148_3 := hx148_3
        have hw148_2 := hx148_2
        have hw148_1 := hx148_1
        have hw148_0 := hx148_0
        obtain rfl : ad146 = ad148 := (by injection e148)
        replace hx148_0 := (HB.out.cell (World.block_lt_of_cell? w _ hx148_0)).trans hx148_0
        replace hx148_1 := (HB.out.cell (World.block_lt_of_cell? w _ hx148_1)).trans hx148_1
        replace hx148_2 := (HB.out.cell (World.block_lt_of_cell? w _ hx148_2)).trans hx148_2
        replace hx148_3 := (HB.out.cell (World.block_lt_of_cell? w _ hx148_3)).trans hx148_3
        have HR148_1 := Aside0.mk hi148_1
        have HC148_1 := Aside0.mk hl148_1
        clear hi148_1 hl148_1
        replace p148 := eq_true p148
        replace q148 := eq_true q148
        refine start_ (n := 14) (S := fun w' => w'.cell? (ad146.add (((ji4)).toNat * 4)) = some (.int .i64 ((rd_T69 l0 (ji4)).f0)) ∧ w'.cell? ⟨(ad146.add (((ji4)).toNat * 4)).block, (ad146.add (((ji4)).toNat * 4)).off + 1, none⟩ = some (.slice A146_1 ((rd_T69 l0 (ji4)).f1).length c146_1) ∧ w'.cell? ⟨(ad146.add (((ji4)).toNat * 4)).block, (ad146.add (((ji4)).toNat * 4)).off + 2, none⟩ = some (.int .i64 ((rd_T69 l0 (ji4)).f2)) ∧ w'.cell? ⟨(ad146.add (((ji4)).toNat * 4)).block, (ad146.add (((ji4)).toNat * 4)).off + 3, none⟩ = some (.int .i64 ((rd_T69 l0 (ji4)).f3)) ∧ w'.cell? (ad146.add ((x5_1).toNat * 4)) = some (.int .i64 ((rd_T69 l0 x5_1).f0)) ∧ w'.cell? ⟨(ad146.add ((x5_1).toNat * 4)).block, (ad146.add ((x5_1).toNat * 4)).off + 1, none⟩ = some (.slice A148_1 ((rd_T69 l0 x5_1).f1).length c148_1) ∧ w'.cell? ⟨(ad146.add ((x5_1).toNat * 4)).block, (ad146.add ((x5_1).toNat * 4)).off + 2, none⟩ = some (.int .i64 ((rd_T69 l0 x5_1).f2)) ∧ w'.cell? ⟨(ad146.add ((x5_1).toNat * 4)).block, (ad146.add ((x5_1).toNat * 4)).off + 3, none⟩ = some (.int .i64 ((rd_T69 l0 x5_1).f3))) (ds := []) D0_1000059 (by kernel_rfl) rfl rfl ⟨((HB.out.cell (World.block_lt_of_cell? w _ hw146_0)).trans hw146_0), ((HB.out.cell (World.block_lt_of_cell? w _ hw146_1)).trans hw146_1), ((HB.out.cell (World.block_lt_of_cell? w _ hw146_2)).trans hw146_2), ((HB.out.cell (World.block_lt_of_cell? w _ hw146_3)).trans hw146_3), ((HB.out.cell (World.block_lt_of_cell? w _ hw148_0)).trans hw148_0), ((HB.out.cell (World.block_lt_of_cell? w _ hw148_1)).trans hw148_1), ((HB.out.cell (World.block_lt_of_cell? w _ hw148_2)).trans hw148_2), ((HB.out.cell (World.block_lt_of_cell? w _ hw148_3)).trans hw148_3)⟩ (fun hHeld => ?_); refine with_tabW impl_School_59__impl_AreSchools_1.tab4 impl_School_59__impl_AreSchools_1.bits4 (fun HT_ HW_ => ?_)
        generalize wr.drew = w11 at HB HR146_1 HR148_1 hx146_0 hx146_1 hx146_2 hx146_3 hx148_0 hx148_1 hx148_2 hx148_3 hHeld ⊢
        refine pure_ (i := 0) (N := some 12) (v := ?_) (a' := ?_) D1_1000059 rfl rfl (any_of HT_.out (by kernel_rfl)) (fun _ _ _ h => h) (Or.inl ⟨by rfl, ?_⟩) ?_ ?_
        rotate_left
        ·intro w'
         go_simp
         with_reducible rfl
        rotate_left
        ·simp only [Act.put, sS_, sZ_, sC_, i64_w, i32_w]
         rfl
        refine pure_ (i := 1) (N := some 13) (v := ?_) (a' := ?_) D2_1000059 rfl rfl (any_of HT_.out (by kernel_rfl)) (fun _ _ _ h => h) (Or.inl ⟨by rfl, ?_⟩) ?_ ?_
        rotate_left
        ·intro w'
         go_simp
         with_reducible rfl
        rotate_left
        ·simp only [Act.put, sS_, sZ_, sC_, i64_w, i32_w]
         rfl
        refine pure_ (i := 2) (N := some 14) (v := ?_) (a' := ?_) D3_1000059 rfl rfl (any_of HT_.out (by kernel_rfl)) (fun _ _ _ h => h) (Or.inl ⟨by rfl, ?_⟩) ?_ ?_
        rotate_left
        ·intro w'
         go_simp
         with_reducible rfl
        rotate_left
        ·simp only [Act.put, sS_, sZ_, sC_, i64_w, i32_w]
         rfl
        refine pure_ (i := 3) (N := some 15) (v := ?_) (a' := ?_) D4_1000059 rfl rfl (any_of HT_.out (by kernel_rfl)) (fun _ _ _ h => h) (Or.inl ⟨by rfl, ?_⟩) ?_ ?_
        rotate_left
        ·intro w'
         go_simp
         with_reducible rfl
        rotate_left
        ·simp only [Act.put, sS_, sZ_, sC_, i64_w, i32_w]
         rfl
        refine pure_ (i := 4) (N := some 16) (v := ?_) (a' := ?_) D5_1000059 rfl rfl (any_of HT_.out (by kernel_rfl)) (fun _ _ _ h => h) (Or.inl ⟨by rfl, ?_⟩) ?_ ?_
        rotate_left
        ·intro w'
         go_simp
         with_reducible rfl
        rotate_left
        ·simp only [Act.put, sS_, sZ_, sC_, i64_w, i32_w]
         rfl
        refine pure_ (i := 7) (N := some 19) (v := ?_) (a' := ?_) D6_1000059 rfl rfl (any_of HT_.out (by kernel_rfl)) (fun _ _ _ h => h) (Or.inl ⟨by rfl, ?_⟩) ?_ ?_
        rotate_left
        ·intro w'
         go_simp
         with_reducible rfl
        rotate_left
        ·simp only [Act.put, sS_, sZ_, sC_, i64_w, i32_w]
         rfl
        refine pure_ (i := 8) (N := some 20) (v := ?_) (a' := ?_) D7_1000059 rfl rfl (any_of HT_.out (by kernel_rfl)) (fun _ _ _ h => h) (Or.inl ⟨by rfl, ?_⟩) ?_ ?_
        rotate_left
        ·intro w'
         go_simp
         with_reducible rfl
        rotate_left
        ·simp only [Act.put, sS_, sZ_, sC_, i64_w, i32_w]
         rfl
        refine pure_ (i := 9) (N := some 21) (v := ?_) (a' := ?_) D8_1000059 rfl rfl (any_of HT_.out (by kernel_rfl)) (fun _ _ _ h => h) (Or.inl ⟨by rfl, ?_⟩) ?_ ?_
        rotate_left
        ·intro w'
         go_simp
         with_reducible rfl
        rotate_left
        ·simp only [Act.put, sS_, sZ_, sC_, i64_w, i32_w]
         rfl
        refine pure_ (i := 10) (N := some 22) (v := ?_) (a' := ?_) D9_1000059 rfl rfl (any_of HT_.out (by kernel_rfl)) (fun _ _ _ h => h) (Or.inl ⟨by rfl, ?_⟩) ?_ ?_
        rotate_left
        ·intro w'
         go_simp
         with_reducible rfl
        rotate_left
        ·simp only [Act.put, sS_, sZ_, sC_, i64_w, i32_w]
         rfl
        refine take_ (i := 5) (N := some 17) (v := ?_) (a' := ?_) D10_1000059 rfl rfl (take_ofW HT_.out HW_.out (by kernel_rfl)) (fun _ _ _ h => h) (Or.inl ⟨by rfl, ?_⟩) hHeld ?_ ?_
        rotate_left
        ·rintro w' ⟨s0, s1, s2, s3, s4, s5, s6, s7⟩
         go_simp
         with_reducible rfl
        rotate_left
        ·simp only [Act.put, sS_, sZ_, sC_, i64_w, i32_w]
         rfl
        refine take_ (i := 11) (N := some 23) (v := ?_) (a' := ?_) D11_1000059 rfl rfl (take_ofW HT_.out HW_.out (by kernel_rfl)) (fun _ _ _ h => h) (Or.inl ⟨by rfl, ?_⟩) hHeld ?_ ?_
        rotate_left
        ·rintro w' ⟨s0, s1, s2, s3, s4, s5, s6, s7⟩
         go_simp
         with_reducible rfl
        rotate_left
        ·simp only [Act.put, sS_, sZ_, sC_, i64_w, i32_w]
         rfl
        refine one_ (i := 6) (N := some 18) D12_1000059 rfl rfl (one_of HT_.out (by kernel_rfl)) (by decide) (fun K hK => ?_)
        refine goesV_ Try.func60 (by kernel_rfl) rfl #[.agg #[.int .i64 ((rd_T69 l0 (ji4)).f0), .slice A146_1 ((rd_T69 l0 (ji4)).f1).length c146_1, .int .i64 ((rd_T69 l0 (ji4)).f2), .int .i64 ((rd_T69 l0 (ji4)).f3)]] (by rfl) rfl rfl (by rfl) (by (try simp only [List.map_toArray, List.map_cons, List.map_nil]); first | done | (simp only [hji4]; rfl) | rfl | (simp only [List.length_drop, List.length_take]; rfl)) ?_
        with_reducible refine (impl_AreSchools_1.calls ((rd_T69 l0 (ji4)).f0) _ _ ((rd_T69 l0 (ji4)).f1) ((rd_T69 l0 (ji4)).f2) ((rd_T69 l0 (ji4)).f3) t147 _ ?side1 ?side2 A7.out).mono ?_
        (case side1 => repeat (first | exact (Kd.C_below HR146_1.out HB.out) | (with_reducible refine Kd.C_alloc ?_ _) | (with_reducible refine Kd.C_drewN ?_ _) | (with_reducible refine Kd.C_drew ?_)))
        (case side2 => exact HC146_1.out)
        rintro e w12 ⟨rfl, hb⟩
        refine ⟨_, rfl, ?_⟩
        have n0_ := Aside0.mk (below_step (by repeat (first | (with_reducible first | exact HB.out | apply below_alloc | apply pw_below_drewN | apply below_drew1) | exact HB.out)) hb)
        clear HB
        have HB := n0_
        clear n0_
        (try clear hb)
        (try clear hb2)
        (try clear hk)
        (try clear hi)
        refine hK.out _ _ ⟨((HB.out.cell (World.block_lt_of_cell? w _ hw146_0)).trans hw146_0), ((HB.out.cell (World.block_lt_of_cell? w _ hw146_1)).trans hw146_1), ((HB.out.cell (World.block_lt_of_cell? w _ hw146_2)).trans hw146_2), ((HB.out.cell (World.block_lt_of_cell? w _ hw146_3)).trans hw146_3), ((HB.out.cell (World.block_lt_of_cell? w _ hw148_0)).trans hw148_0), ((HB.out.cell (World.block_lt_of_cell? w _ hw148_1)).trans hw148_1), ((HB.out.cell (World.block_lt_of_cell? w _ hw148_2)).trans hw148_2), ((HB.out.cell (World.block_lt_of_cell? w _ hw148_3)).trans hw148_3)⟩ (fun hHeld => ?_)
        clear hK K
        refine norm_ (a' := ?_) ?_ ?_
        rotate_left
        ·show Act.put _ (some 18) _ = _
         simp only [Act.put, sS_, sZ_, sC_, i64_w, i32_w]
         rfl
        refine one_ (i := 12) (N := some 24) D13_1000059 rfl rfl (one_of HT_.out (by kernel_rfl)) (by decide) (fun K hK => ?_)
        refine goesV_ Try.func60 (by kernel_rfl) rfl #[.agg #[.int .i64 ((rd_T69 l0 x5_1).f0), .slice A148_1 ((rd_T69 l0 x5_1).f1).length c148_1, .int .i64 ((rd_T69 l0 x5_1).f2), .int .i64 ((rd_T69 l0 x5_1).f3)]] (by rfl) rfl rfl (by rfl) (by (try simp only [List.map_toArray, List.map_cons, List.map_nil]); first | done | rfl | (simp only [List.length_drop, List.length_take]; rfl)) ?_
        with_reducible refine (impl_AreSchools_1.calls ((rd_T69 l0 x5_1).f0) _ _ ((rd_T69 l0 x5_1).f1) ((rd_T69 l0 x5_1).f2) ((rd_T69 l0 x5_1).f3) t149 _ ?side1 ?side2 A9.out).mono ?_
        (case side1 => repeat (first | exact (Kd.C_below HR148_1.out HB.out) | (with_reducible refine Kd.C_alloc ?_ _) | (with_reducible refine Kd.C_drewN ?_ _) | (with_reducible refine Kd.C_drew ?_)))
        (case side2 => exact HC148_1.out)
        rintro e w13 ⟨rfl, hb⟩
        refine ⟨_, rfl, ?_⟩
        have n0_ := Aside0.mk (below_step (by repeat (first | (with_reducible first | exact HB.out | apply below_alloc | apply pw_below_drewN | apply below_drew1) | exact HB.out)) hb)
        clear HB
        have HB := n0_
        clear n0_
        (try clear hb)
        (try clear hb2)
        (try clear hk)
        (try clear hi)
        refine hK.out _ _ ⟨((HB.out.cell (World.block_lt_of_cell? w _ hw146_0)).trans hw146_0), ((HB.out.cell (World.block_lt_of_cell? w _ hw146_1)).trans hw146_1), ((HB.out.cell (World.block_lt_of_cell? w _ hw146_2)).trans hw146_2), ((HB.out.cell (World.block_lt_of_cell? w _ hw146_3)).trans hw146_3), ((HB.out.cell (World.block_lt_of_cell? w _ hw148_0)).trans hw148_0), ((HB.out.cell (World.block_lt_of_cell? w _ hw148_1)).trans hw148_1), ((HB.out.cell (World.block_lt_of_cell? w _ hw148_2)).trans hw148_2), ((HB.out.cell (World.block_lt_of_cell? w _ hw148_3)).trans hw148_3)⟩ (fun hHeld => ?_)
        clear hK K
        refine norm_ (a' := ?_) ?_ ?_
        rotate_left
        ·show Act.put _ (some 24) _ = _
         simp only [Act.put, sS_, sZ_, sC_, i64_w, i32_w]
         rfl
        refine pure_ (i := 13) (N := some 25) (v := ?_) (a' := ?_) D14_1000059 rfl rfl (any_of HT_.out (by kernel_rfl)) (fun _ _ _ h => h) (Or.inl ⟨by rfl, ?_⟩) ?_ ?_
        rotate_left
        ·intro w'
         go_simp
         with_reducible rfl
        rotate_left
        ·simp only [Act.put, sS_, sZ_, sC_, i64_w, i32_w]
         rfl
        refine done_ (done_of HT_.out (by kernel_rfl)) ?_
        try go_wp2
        go_ret
        exact ⟨by first | rfl | (simp [errW_none, errW_some] <;> rfl) | (simp only [← hji4]; first | rfl | (simp [errW_none, errW_some] <;> rfl)) | (simp [*, errW_none, errW_some] <;> rfl) | (simp [wrap64]; done), by repeat (first | (with_reducible first | exact HB.out | apply below_alloc | apply pw_below_drewN | apply below_drew1) | exact HB.out)⟩
       ·rw [if_neg c10] at H
        have c10b0 : decide (t149 ≤ t147) = false := decide_eq_false c10
        clear c10
        have H' := Aside0.mk H
        clear H
        try go_wp2
        have n0_ := Aside0.mk (below_drew1 HB.out)
        clear HB
        have HB := n0_
        clear n0_
        have p146 : 0 ≤ ((ji4) : Int) := of_decide_eq_true (by first | (with_reducible assumption) | assumption)
        have q146 : (ji4) < (l0.length : Int) := of_decide_eq_true (by first | (with_reducible assumption) | assumption)
        obtain ⟨ad146, A146_1, c146_1, e146, hx146_0, hx146_1, hx146_2, hx146_3, hl146_1, hi146_1⟩ := at_T69 HR0.out (ji4) p146 q146
        have hw146_3 := hx146_3
        have hw146_2 := hx146_2
        have hw146_1 := hx146_1
        have hw146_0 := hx146_0
        cases e146
        replace hx146_0 := (HB.out.cell (World.block_lt_of_cell? w _ hx146_0)).trans hx146_0
        replace hx146_1 := (HB.out.cell (World.block_lt_of_cell? w _ hx146_1)).trans hx146_1
        replace hx146_2 := (HB.out.cell (World.block_lt_of_cell? w _ hx146_2)).trans hx146_2
        replace hx146_3 := (HB.out.cell (World.block_lt_of_cell? w _ hx146_3)).trans hx146_3
        have HR146_1 := Aside0.mk hi146_1
        have HC146_1 := Aside0.mk hl146_1
        clear hi146_1 hl146_1
        replace p146 := eq_true p146
        replace q146 := eq_true q146
        have p148 : 0 ≤ (x5_1 : Int) := of_decide_eq_true (by first | (with_reducible assumption) | assumption)
        have q148 : x5_1 < (l0.length : Int) := of_decide_eq_true (by first | (with_reducible assumption) | assumption)
        obtain ⟨ad148, A148_1, c148_1, e148, hx148_0, hx148_1, hx148_2, hx148_3, hl148_1, hi148_1⟩ := at_T69 HR0.out x5_1 p148 q148
        have hw148_3 := hx148_3
        have hw148_2 := hx148_2
        have hw148_1 := hx148_1
        have hw148_0 := hx148_0
        obtain rfl : ad146 = ad148 := (by injection e148)
        replace hx148_0 := (HB.out.cell (World.block_lt_of_cell? w _ hx148_0)).trans hx148_0
        replace hx148_1 := (HB.out.cell (World.block_lt_of_cell? w _ hx148_1)).trans hx148_1
        replace hx148_2 := (HB.out.cell (World.block_lt_of_cell? w _ hx148_2)).trans hx148_2
        replace hx148_3 := (HB.out.cell (World.block_lt_of_cell? w _ hx148_3)).trans hx148_3
        have HR148_1 := Aside0.mk hi148_1
        have HC148_1 := Aside0.mk hl148_1
        clear hi148_1 hl148_1
        replace p148 := eq_true p148
        replace q148 := eq_true q148
        refine start_ (n := 14) (S := fun w' => w'.cell? (ad146.add (((ji4)).toNat * 4)) = some (.int .i64 ((rd_T69 l0 (ji4)).f0)) ∧ w'.cell? ⟨(ad146.add (((ji4)).toNat * 4)).block, (ad146.add (((ji4)).toNat * 4)).off + 1, none⟩ = some (.slice A146_1 ((rd_T69 l0 (ji4)).f1).length c146_1) ∧ w'.cell? ⟨(ad146.add (((ji4)).toNat * 4)).block, (ad146.add (((ji4)).toNat * 4)).off + 2, none⟩ = some (.int .i64 ((rd_T69 l0 (ji4)).f2)) ∧ w'.cell? ⟨(ad146.add (((ji4)).toNat * 4)).block, (ad146.add (((ji4)).toNat * 4)).off + 3, none⟩ = some (.int .i64 ((rd_T69 l0 (ji4)).f3)) ∧ w'.cell? (ad146.add ((x5_1).toNat * 4)) = some (.int .i64 ((rd_T69 l0 x5_1).f0)) ∧ w'.cell? ⟨(ad146.add ((x5_1).toNat * 4)).block, (ad146.add ((x5_1).toNat * 4)).off + 1, none⟩ = some (.slice A148_1 ((rd_T69 l0 x5_1).f1).length c148_1) ∧ w'.cell? ⟨(ad146.add ((x5_1).toNat * 4)).block, (ad146.add ((x5_1).toNat * 4)).off + 2, none⟩ = some (.int .i64 ((rd_T69 l0 x5_1).f2)) ∧ w'.cell? ⟨(ad146.add ((x5_1).toNat * 4)).block, (ad146.add ((x5_1).toNat * 4)).off + 3, none⟩ = some (.int .i64 ((rd_T69 l0 x5_1).f3))) (ds := []) D0_1000059 (by kernel_rfl) rfl rfl ⟨((HB.out.cell (World.block_lt_of_cell? w _ hw146_0)).trans hw146_0), ((HB.out.cell (World.block_lt_of_cell? w _ hw146_1)).trans hw146_1), ((HB.out.cell (World.block_lt_of_cell? w _ hw146_2)).trans hw146_2), ((HB.out.cell (World.block_lt_of_cell? w _ hw146_3)).trans hw146_3), ((HB.out.cell (World.block_lt_of_cell? w _ hw148_0)).trans hw148_0), ((HB.out.cell (World.block_lt_of_cell? w _ hw148_1)).trans hw148_1), ((HB.out.cell (World.block_lt_of_cell? w _ hw148_2)).trans hw148_2), ((HB.out.cell (World.block_lt_of_cell? w _ hw148_3)).trans hw148_3)⟩ (fun hHeld => ?_); refine with_tabW impl_School_59__impl_AreSchools_1.tab4 impl_School_59__impl_AreSchools_1.bits4 (fun HT_ HW_ => ?_)
        generalize wr.drew = w14 at HB HR146_1 HR148_1 hx146_0 hx146_1 hx146_2 hx146_3 hx148_0 hx148_1 hx148_2 hx148_3 hHeld ⊢
        refine pure_ (i := 0) (N := some 12) (v := ?_) (a' := ?_) D1_1000059 rfl rfl (any_of HT_.out (by kernel_rfl)) (fun _ _ _ h => h) (Or.inl ⟨by rfl, ?_⟩) ?_ ?_
        rotate_left
        ·intro w'
         go_simp
         with_reducible rfl
        rotate_left
        ·simp only [Act.put, sS_, sZ_, sC_, i64_w, i32_w]
         rfl
        refine pure_ (i := 1) (N := some 13) (v := ?_) (a' := ?_) D2_1000059 rfl rfl (any_of HT_.out (by kernel_rfl)) (fun _ _ _ h => h) (Or.inl ⟨by rfl, ?_⟩) ?_ ?_
        rotate_left
        ·intro w'
         go_simp
         with_reducible rfl
        rotate_left
        ·simp only [Act.put, sS_, sZ_, sC_, i64_w, i32_w]
         rfl
        refine pure_ (i := 2) (N := some 14) (v := ?_) (a' := ?_) D3_1000059 rfl rfl (any_of HT_.out (by kernel_rfl)) (fun _ _ _ h => h) (Or.inl ⟨by rfl, ?_⟩) ?_ ?_
        rotate_left
        ·intro w'
         go_simp
         with_reducible rfl
        rotate_left
        ·simp only [Act.put, sS_, sZ_, sC_, i64_w, i32_w]
         rfl
        refine pure_ (i := 3) (N := some 15) (v := ?_) (a' := ?_) D4_1000059 rfl rfl (any_of HT_.out (by kernel_rfl)) (fun _ _ _ h => h) (Or.inl ⟨by rfl, ?_⟩) ?_ ?_
        rotate_left
        ·intro w'
         go_simp
         with_reducible rfl
        rotate_left
        ·simp only [Act.put, sS_, sZ_, sC_, i64_w, i32_w]
         rfl
        refine pure_ (i := 4) (N := some 16) (v := ?_) (a' := ?_) D5_1000059 rfl rfl (any_of HT_.out (by kernel_rfl)) (fun _ _ _ h => h) (Or.inl ⟨by rfl, ?_⟩) ?_ ?_
        rotate_left
        ·intro w'
         go_simp
         with_reducible rfl
        rotate_left
        ·simp only [Act.put, sS_, sZ_, sC_, i64_w, i32_w]
         rfl
        refine pure_ (i := 7) (N := some 19) (v := ?_) (a' := ?_) D6_1000059 rfl rfl (any_of HT_.out (by kernel_rfl)) (fun _ _ _ h => h) (Or.inl ⟨by rfl, ?_⟩) ?_ ?_
        rotate_left
        ·intro w'
         go_simp
         with_reducible rfl
        rotate_left
        ·simp only [Act.put, sS_, sZ_, sC_, i64_w, i32_w]
         rfl
        refine pure_ (i := 8) (N := some 20) (v := ?_) (a' := ?_) D7_1000059 rfl rfl (any_of HT_.out (by kernel_rfl)) (fun _ _ _ h => h) (Or.inl ⟨by rfl, ?_⟩) ?_ ?_
        rotate_left
        ·intro w'
         go_simp
         with_reducible rfl
        rotate_left
        ·simp only [Act.put, sS_, sZ_, sC_, i64_w, i32_w]
         rfl
        refine pure_ (i := 9) (N := some 21) (v := ?_) (a' := ?_) D8_1000059 rfl rfl (any_of HT_.out (by kernel_rfl)) (fun _ _ _ h => h) (Or.inl ⟨by rfl, ?_⟩) ?_ ?_
        rotate_left
        ·intro w'
         go_simp
         with_reducible rfl
        rotate_left
        ·simp only [Act.put, sS_, sZ_, sC_, i64_w, i32_w]
         rfl
        refine pure_ (i := 10) (N := some 22) (v := ?_) (a' := ?_) D9_1000059 rfl rfl (any_of HT_.out (by kernel_rfl)) (fun _ _ _ h => h) (Or.inl ⟨by rfl, ?_⟩) ?_ ?_
        rotate_left
        ·intro w'
         go_simp
         with_reducible rfl
        rotate_left
        ·simp only [Act.put, sS_, sZ_, sC_, i64_w, i32_w]
         rfl
        refine take_ (i := 5) (N := some 17) (v := ?_) (a' := ?_) D10_1000059 rfl rfl (take_ofW HT_.out HW_.out (by kernel_rfl)) (fun _ _ _ h => h) (Or.inl ⟨by rfl, ?_⟩) hHeld ?_ ?_
        rotate_left
        ·rintro w' ⟨s0, s1, s2, s3, s4, s5, s6, s7⟩
         go_simp
         with_reducible rfl
        rotate_left
        ·simp only [Act.put, sS_, sZ_, sC_, i64_w, i32_w]
         rfl
        refine take_ (i := 11) (N := some 23) (v := ?_) (a' := ?_) D11_1000059 rfl rfl (take_ofW HT_.out HW_.out (by kernel_rfl)) (fun _ _ _ h => h) (Or.inl ⟨by rfl, ?_⟩) hHeld ?_ ?_
        rotate_left
        ·rintro w' ⟨s0, s1, s2, s3, s4, s5, s6, s7⟩
         go_simp
         with_reducible rfl
        rotate_left
        ·simp only [Act.put, sS_, sZ_, sC_, i64_w, i32_w]
         rfl
        refine one_ (i := 6) (N := some 18) D12_1000059 rfl rfl (one_of HT_.out (by kernel_rfl)) (by decide) (fun K hK => ?_)
        refine goesV_ Try.func60 (by kernel_rfl) rfl #[.agg #[.int .i64 ((rd_T69 l0 (ji4)).f0), .slice A146_1 ((rd_T69 l0 (ji4)).f1).length c146_1, .int .i64 ((rd_T69 l0 (ji4)).f2), .int .i64 ((rd_T69 l0 (ji4)).f3)]] (by rfl) rfl rfl (by rfl) (by (try simp only [List.map_toArray, List.map_cons, List.map_nil]); first | done | (simp only [hji4]; rfl) | rfl | (simp only [List.length_drop, List.length_take]; rfl)) ?_
        with_reducible refine (impl_AreSchools_1.calls ((rd_T69 l0 (ji4)).f0) _ _ ((rd_T69 l0 (ji4)).f1) ((rd_T69 l0 (ji4)).f2) ((rd_T69 l0 (ji4)).f3) t147 _ ?side1 ?side2 A7.out).mono ?_
        (case side1 => repeat (first | exact (Kd.C_below HR146_1.out HB.out) | (with_reducible refine Kd.C_alloc ?_ _) | (with_reducible refine Kd.C_drewN ?_ _) | (with_reducible refine Kd.C_drew ?_)))
        (case side2 => exact HC146_1.out)
        rintro e w15 ⟨rfl, hb⟩
        refine ⟨_, rfl, ?_⟩
        have n0_ := Aside0.mk (below_step (by repeat (first | (with_reducible first | exact HB.out | apply below_alloc | apply pw_below_drewN | apply below_drew1) | exact HB.out)) hb)
        clear HB
        have HB := n0_
        clear n0_
        (try clear hb)
        (try clear hb2)
        (try clear hk)
        (try clear hi)
        refine hK.out _ _ ⟨((HB.out.cell (World.block_lt_of_cell? w _ hw146_0)).trans hw146_0), ((HB.out.cell (World.block_lt_of_cell? w _ hw146_1)).trans hw146_1), ((HB.out.cell (World.block_lt_of_cell? w _ hw146_2)).trans hw146_2), ((HB.out.cell (World.block_lt_of_cell? w _ hw146_3)).trans hw146_3), ((HB.out.cell (World.block_lt_of_cell? w _ hw148_0)).trans hw148_0), ((HB.out.cell (World.block_lt_of_cell? w _ hw148_1)).trans hw148_1), ((HB.out.cell (World.block_lt_of_cell? w _ hw148_2)).trans hw148_2), ((HB.out.cell (World.block_lt_of_cell? w _ hw148_3)).trans hw148_3)⟩ (fun hHeld => ?_)
        clear hK K
        refine norm_ (a' := ?_) ?_ ?_
        rotate_left
        ·show Act.put _ (some 18) _ = _
         simp only [Act.put, sS_, sZ_, sC_, i64_w, i32_w]
         rfl
        refine one_ (i := 12) (N := some 24) D13_1000059 rfl rfl (one_of HT_.out (by kernel_rfl)) (by decide) (fun K hK => ?_)
        refine goesV_ Try.func60 (by kernel_rfl) rfl #[.agg #[.int .i64 ((rd_T69 l0 x5_1).f0), .slice A148_1 ((rd_T69 l0 x5_1).f1).length c148_1, .int .i64 ((rd_T69 l0 x5_1).f2), .int .i64 ((rd_T69 l0 x5_1).f3)]] (by rfl) rfl rfl (by rfl) (by (try simp only [List.map_toArray, List.map_cons, List.map_nil]); first | done | rfl | (simp only [List.length_drop, List.length_take]; rfl)) ?_
        with_reducible refine (impl_AreSchools_1.calls ((rd_T69 l0 x5_1).f0) _ _ ((rd_T69 l0 x5_1).f1) ((rd_T69 l0 x5_1).f2) ((rd_T69 l0 x5_1).f3) t149 _ ?side1 ?side2 A9.out).mono ?_
        (case side1 => repeat (first | exact (Kd.C_below HR148_1.out HB.out) | (with_reducible refine Kd.C_alloc ?_ _) | (with_reducible refine Kd.C_drewN ?_ _) | (with_reducible refine Kd.C_drew ?_)))
        (case side2 => exact HC148_1.out)
        rintro e w16 ⟨rfl, hb⟩
        refine ⟨_, rfl, ?_⟩
        have n0_ := Aside0.mk (below_step (by repeat (first | (with_reducible first | exact HB.out | apply below_alloc | apply pw_below_drewN | apply below_drew1) | exact HB.out)) hb)
        clear HB
        have HB := n0_
        clear n0_
        (try clear hb)
        (try clear hb2)
        (try clear hk)
        (try clear hi)
        refine hK.out _ _ ⟨((HB.out.cell (World.block_lt_of_cell? w _ hw146_0)).trans hw146_0), ((HB.out.cell (World.block_lt_of_cell? w _ hw146_1)).trans hw146_1), ((HB.out.cell (World.block_lt_of_cell? w _ hw146_2)).trans hw146_2), ((HB.out.cell (World.block_lt_of_cell? w _ hw146_3)).trans hw146_3), ((HB.out.cell (World.block_lt_of_cell? w _ hw148_0)).trans hw148_0), ((HB.out.cell (World.block_lt_of_cell? w _ hw148_1)).trans hw148_1), ((HB.out.cell (World.block_lt_of_cell? w _ hw148_2)).trans hw148_2), ((HB.out.cell (World.block_lt_of_cell? w _ hw148_3)).trans hw148_3)⟩ (fun hHeld => ?_)
        clear hK K
        refine norm_ (a' := ?_) ?_ ?_
        rotate_left
        ·show Act.put _ (some 24) _ = _
         simp only [Act.put, sS_, sZ_, sC_, i64_w, i32_w]
         rfl
        refine pure_ (i := 13) (N := some 25) (v := ?_) (a' := ?_) D14_1000059 rfl rfl (any_of HT_.out (by kernel_rfl)) (fun _ _ _ h => h) (Or.inl ⟨by rfl, ?_⟩) ?_ ?_
        rotate_left
        ·intro w'
         go_simp
         with_reducible rfl
        rotate_left
        ·simp only [Act.put, sS_, sZ_, sC_, i64_w, i32_w]
         rfl
        refine done_ (done_of HT_.out (by kernel_rfl)) ?_
        try go_wp2
        go_roundg k1
        case measure => have := HK1.out; omega
        case rel => exact ⟨(wrap64 (x5_1 + 1)), (by first | rfl | (simp; done) | (simp [*]; done)), H', ⟨by have := HK1.out; omega⟩, ⟨by repeat (first | (with_reducible first | exact HB.out | apply below_alloc | apply pw_below_drewN | apply below_drew1) | exact HB.out)⟩⟩
      ·rw [if_neg c8] at H
       exact absurd H (by simp)
     ·rw [if_neg c6] at H
      exact absurd H (by simp)
    ·rw [if_neg c5] at H
     exact absurd H (by simp)
   ·rw [if_neg c3] at H
    have c3b0 : decide (x5_1 < (l0.length : Int)) = false := decide_eq_false c3
    clear c3
    obtain rfl := Option.some.inj H
    go_wp2
    go_ret
    exact ⟨by first | rfl | (simp [errW_none, errW_some] <;> rfl) | (simp [*, errW_none, errW_some] <;> rfl) | (simp [wrap64]; done), by repeat (first | (with_reducible first | exact HB.out | apply below_alloc | apply pw_below_drewN | apply below_drew1) | exact HB.out)⟩

end Go.Proofs.Ytblihmohgfmpgaa.Q
