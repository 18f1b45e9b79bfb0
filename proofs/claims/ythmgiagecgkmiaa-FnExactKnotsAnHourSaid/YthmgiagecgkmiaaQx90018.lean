-- Written by a program of this session (wip/tools/pp.sh); Lean checks it.
import Derived.Test.YthmgiagecgkmiaaQx0
import Derived.Test.YthmgiagecgkmiaaQx90017
namespace Go.Proofs.Ythmgiagecgkmiaa.Q
open Go.RowKit Go.Proofs.YthmgiagecgkmiaaW.PrintWords Go.Proofs.YthmgiagecgkmiaaW.PrintLast Go.Proofs.YthmgiagecgkmiaaW.PrintMore
attribute [local go_sem] max2_int min2_int max_two min_two max_three min_three max_four min_four   -- for this text's walks alone
set_option linter.unusedVariables false
set_option linter.unusedSimpArgs false

/-! ### areAll_39: function 39 -/
set_option maxHeartbeats 2000000 in
theorem clo_52 (g : Nat) (eg : ∀ args w, (callFunc g args).run Try.prog w = .ok (.enter g args) w) (b : Nat) (x : S25) (cs : List Value) (q : Bool) (w : World) (hb : w.cell? ⟨b, 0, none⟩ = some (.func (.func g) #[] #[])) (hlt : b < w.heap.size)
    (hk : (k25).K w x cs)
    (hq : ∀ W, Below w.heap.size w W → Calls Try.prog g #[.agg cs.toArray] W fun e W' => e = .returned (.bool q) ∧ Below W.heap.size W W') :
    Calls Try.prog 52 #[.agg cs.toArray, .pointer (some ⟨b, 0, none⟩)] w fun e w' => e = .returned (.bool (!q)) ∧ Below w.heap.size w w' := by
  have hu := Try.underlying25
  obtain rfl := k25_open hk
  have HQ := Aside0.mk hq
  have HKK := Aside0.mk hk
  clear hq hk
  go_enter Try.func52, Try.ntmps52
  go_wp2_with (go_at_fn g; refine (HQ.out _ ((Below.refl _ _).alloc (Nat.le_refl _) _)).mono ?_; rintro e w' ⟨rfl, hb'⟩)
  go_ret
  exact ⟨rfl, ((Below.refl _ _).alloc (Nat.le_refl _) _).trans (hb'.mono (by simp))⟩
set_option maxHeartbeats 2000000 in
theorem all_39 (g : Nat) (eg : ∀ args w, (callFunc g args).run Try.prog w = .ok (.enter g args) w) (p : S25 → Bool) (A : Option Addr) (c : Nat) (l : List S25) (w : World) (hr : Kd.C k25 w A l.length l)
    (hp : ∀ x, x ∈ l → ∀ W cs, Below w.heap.size w W → (k25).K W x cs → Calls Try.prog g #[.agg cs.toArray] W fun e W' => e = .returned (.bool (p x)) ∧ Below W.heap.size W W') :
    Calls Try.prog 39 #[.slice A l.length c, .func (.func g) #[] #[]] w fun e w' => e = .returned (.bool (l.all p)) ∧ Below w.heap.size w w' := by
  have hall : l.all p = !(l.any fun x => !p x) := by simp [List.not_any_eq_all_not]
  rw [hall]
  have HH := Aside0.mk hall
  clear hall
  have ha : Below w.heap.size w (w.alloc (.cells #[.func (.func g) #[] #[]] 24)) := (Below.refl _ _).alloc (Nat.le_refl _) _
  have HA := Aside0.mk ha
  clear ha
  have ec : ∀ args w, (callFunc 52 args).run Try.prog w = .ok (.enter 52 args) w := enters_of Try.func52 (by kernel_rfl) rfl
  have hcon := con_51 52 #[.pointer (some ⟨w.heap.size, 0, none⟩)] ec (fun x => !p x) A c l (w.alloc (.cells #[.func (.func g) #[] #[]] 24)) (Kd.C_below hr HA.out) (fun x hx W cs hb hk => by
    have hcell : W.cell? ⟨w.heap.size, 0, none⟩ = some (.func (.func g) #[] #[]) := by
      rw [hb.cell (p := ⟨w.heap.size, 0, none⟩) (by simp)]
      simp
    exact clo_52 g eg w.heap.size x cs (p x) W hcell (by have := hb.size; simp at this; omega) hk (fun W' hW' => hp x hx W' cs (HA.out.trans ((hb.mono (by simp)).trans (hW'.mono (by have := hb.size; simp at this; omega)))) (Kd.K_below _ hW' hk)))
  have HC := Aside0.mk hcon
  clear hcon hp
  go_enter Try.func39, Try.ntmps39
  go_wp2_with (go_at_call 51; refine HC.out.mono ?_; rintro e w' ⟨rfl, hb'⟩)
  go_ret
  exact ⟨rfl, HA.out.trans (hb'.mono (by simp))⟩

end Go.Proofs.Ythmgiagecgkmiaa.Q
