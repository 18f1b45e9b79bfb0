-- Written by a program of this session (wip/tools/pp.sh); Lean checks it.
import Derived.Test.YtmhiaggpnkihcaaQx0
import Derived.Test.YtmhiaggpnkihcaaQx90025
namespace Go.Proofs.Ytmhiaggpnkihcaa.Q
open Go.RowKit Go.Proofs.YtmhiaggpnkihcaaW.PrintWords Go.Proofs.YtmhiaggpnkihcaaW.PrintLast Go.Proofs.YtmhiaggpnkihcaaW.PrintMore
attribute [local go_sem] max2_int min2_int max_two min_two max_three min_three max_four min_four   -- for this text's walks alone
set_option linter.unusedVariables false
set_option linter.unusedSimpArgs false

/-! ### impl_Shop_onLoom: function 39 -/
/-- The place of the woven carpet on a loom: the closure's answer, then the search. -/
theorem clo_46 (b : Nat) (x : S50) (cs : List Value) (v : Int) (w : World) (hb : w.cell? ⟨b, 0, none⟩ = some (.int .i64 v)) (hlt : b < w.heap.size) (hk : (k50).K w x cs) :
    Calls Try.prog 46 #[.agg cs.toArray, .pointer (some ⟨b, 0, none⟩)] w fun e w' => e = .returned (.bool (decide (x.f2 = 1) && decide (x.f3 = v))) ∧ Below w.heap.size w w' := by
  have hu := Try.underlying50
  obtain rfl := k50_open hk
  clear hk
  go_enter Try.func46, Try.ntmps46
  go_wp2
  all_goals (go_ret; refine ⟨?_, (Below.refl _ _).alloc (Nat.le_refl _) _⟩; first | (rename_i h_; show Ending.returned (.bool (decide (x.f3 = v))) = _; simp [h_]; done) | (rename_i h_; simp [h_]; done) | skip)
def impl_Shop_onLoom.f (a0_0 : Int) (a0_1 : Int) (l0_2 : List (S50)) (a0_3 : Int) (a1 : Int) : Option Int := some (idx (fun x : S50 => decide (x.f2 = 1) && decide (x.f3 = a1)) l0_2)
set_option maxHeartbeats 2000000 in
theorem impl_Shop_onLoom.calls (a0_0 : Int) (a0_1 : Int) (A0_2 : Option Addr) (c0_2 : Nat) (l0_2 : List (S50)) (a0_3 : Int) (a1 : Int) (r : Int) (w : World) (hr0_2 : Kd.C k50 w A0_2 l0_2.length l0_2) (hc0_2 : l0_2.length ≤ c0_2) (h : impl_Shop_onLoom.f a0_0 a0_1 l0_2 a0_3 a1 = some r) :
    Calls Try.prog 39 #[.agg #[.int .i64 a0_0, .int .i64 a0_1, .slice A0_2 l0_2.length c0_2, .int .i64 a0_3], .int .i64 a1] w fun e w' => e = .returned (.int .i64 r) ∧ Below w.heap.size w w' := by
  have hu := Try.underlying24
  obtain rfl : idx (fun x : S50 => decide (x.f2 = 1) && decide (x.f3 = a1)) l0_2 = r := by unfold impl_Shop_onLoom.f at h; exact Option.some.inj h
  clear h
  have ha : Below w.heap.size w ((w.alloc (.cells #[.int .i64 a0_0, .int .i64 a0_1, .slice A0_2 l0_2.length c0_2, .int .i64 a0_3] 24)).alloc (.cells #[.int .i64 a1] 3)) := ((Below.refl _ _).alloc (Nat.le_refl _) _).alloc (by simp) _
  have HA := Aside0.mk ha
  clear ha
  have ec : ∀ args w, (callFunc 46 args).run Try.prog w = .ok (.enter 46 args) w := enters_of Try.func46 (by kernel_rfl) rfl
  have hcon := idx_45 46 #[.pointer (some ⟨w.heap.size + 1, 0, none⟩)] ec (fun x : S50 => decide (x.f2 = 1) && decide (x.f3 = a1)) A0_2 c0_2 l0_2 _ (Kd.C_below hr0_2 HA.out) (fun x hx W cs hb hk => by
    have hcell : W.cell? ⟨w.heap.size + 1, 0, none⟩ = some (.int .i64 a1) := by
      rw [hb.cell (p := ⟨w.heap.size + 1, 0, none⟩) (by simp)]
      simp
    exact clo_46 (w.heap.size + 1) x cs a1 W hcell (by have := hb.size; simp at this; omega) hk)
  have HC := Aside0.mk hcon
  clear hcon
  go_enter Try.func39, Try.ntmps39
  go_wp2_with (go_at_call 45; refine HC.out.mono ?_; rintro e w' ⟨rfl, hb'⟩)
  go_ret
  exact ⟨rfl, HA.out.trans (hb'.mono (by simp <;> omega))⟩


end Go.Proofs.Ytmhiaggpnkihcaa.Q
