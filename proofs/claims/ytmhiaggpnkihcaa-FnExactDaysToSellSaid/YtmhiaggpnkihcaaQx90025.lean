-- Written by a program of this session (wip/tools/pp.sh); Lean checks it.
import Derived.Test.YtmhiaggpnkihcaaQx0
namespace Go.Proofs.Ytmhiaggpnkihcaa.Q
open Go.RowKit Go.Proofs.YtmhiaggpnkihcaaW.PrintWords Go.Proofs.YtmhiaggpnkihcaaW.PrintLast Go.Proofs.YtmhiaggpnkihcaaW.PrintMore
attribute [local go_sem] max2_int min2_int max_two min_two max_three min_three max_four min_four   -- for this text's walks alone
set_option linter.unusedVariables false
set_option linter.unusedSimpArgs false

/-! ### IndexFunc_45: function 45 -/
set_option maxHeartbeats 2000000 in
set_option maxRecDepth 100000 in
theorem idx_45 (g : Nat) (lb : Array Value) (eg : ∀ args w, (callFunc g args).run Try.prog w = .ok (.enter g args) w) (p : S50 → Bool) (A : Option Addr) (c : Nat) (l : List S50) (w : World) (hr : Kd.C k50 w A l.length l)
    (hp : ∀ x, x ∈ l → ∀ W cs, Below w.heap.size w W → (k50).K W x cs → Calls Try.prog g (#[.agg cs.toArray] ++ lb) W fun e W' => e = .returned (.bool (p x)) ∧ Below W.heap.size W W') :
    Calls Try.prog 45 #[.slice A l.length c, .func (.func g) #[] lb] w fun e w' => e = .returned (.int .i64 (idx p l)) ∧ Below w.heap.size w w' := by
  have hn := hr.2.1
  go_enter Try.func45, Try.ntmps45
  go_wp2
  go_loopg [5, 8] l.length (fun gg _ s8 wr => ∃ kk : Nat, kk ≤ l.length ∧ l.length - kk ≤ gg ∧ s8 = .int .i64 kk ∧ Aside0 (Below w.heap.size w wr) ∧ Aside0 (∀ j (hj : j < kk) (h2 : j < l.length), p (l[j]) = false))
  case atStart => exact ⟨0, Nat.zero_le _, by omega, rfl, Aside0.mk (Below.refl _ w), Aside0.mk (fun j hj => absurd hj (Nat.not_lt_zero _))⟩
  case round =>
    obtain ⟨kk, hkk, hg, rfl, BW, AA⟩ := hrel
    by_cases hlt : kk < l.length
    · have hltz : (kk : Int) < (l.length : Int) := by omega
      have hC := Kd.C_below hr BW.out
      obtain ⟨ad, cs, rfl, hcl, hK, hcell⟩ := Kd.C_get hC z50 (kk : Int) (by omega) (by omega)
      have hel : l.getD (kk : Int).toNat z50 = l[kk] := by simp [List.getD, hlt]
      rw [hel] at hK
      have hcell' : ∀ j u, cs[j]? = some u → wr.cell? (ad.add (kk * 5 + j)) = some u := hcell
      have hcall := hp (l[kk]) (List.getElem_mem hlt) wr cs BW.out hK
      obtain rfl := k50_open hK
      have hh0 : wr.cell? (ad.add (kk * 5)) = some (.int .i64 ((l[kk]).f0)) := by simpa using hcell' 0 _ rfl
      have hh1 : wr.cell? ⟨(ad.add (kk * 5)).block, (ad.add (kk * 5)).off + 1, none⟩ = some (.int .i64 ((l[kk]).f1)) := by rw [← add_field _ _ 1 (by omega)]; exact hcell' 1 _ rfl
      have hh2 : wr.cell? ⟨(ad.add (kk * 5)).block, (ad.add (kk * 5)).off + 2, none⟩ = some (.int .i64 ((l[kk]).f2)) := by rw [← add_field _ _ 2 (by omega)]; exact hcell' 2 _ rfl
      have hh3 : wr.cell? ⟨(ad.add (kk * 5)).block, (ad.add (kk * 5)).off + 3, none⟩ = some (.int .i64 ((l[kk]).f3)) := by rw [← add_field _ _ 3 (by omega)]; exact hcell' 3 _ rfl
      have hh4 : wr.cell? ⟨(ad.add (kk * 5)).block, (ad.add (kk * 5)).off + 4, none⟩ = some (.int .i64 ((l[kk]).f4)) := by rw [← add_field _ _ 4 (by omega)]; exact hcell' 4 _ rfl
      have HP := Aside0.mk hp
      have HC := Aside0.mk hC
      have HK := Aside0.mk hK
      clear hp hC hel hcell hcell' hK hcl
      cases hq : p (l[kk]) with
      | true =>
        rw [hq] at hcall
        have HQ := Aside0.mk hq
        clear hq
        go_wp2_with (go_at_fn g; refine hcall.mono ?_; rintro e w' ⟨rfl, hb'⟩)
        go_ret
        refine ⟨?_, BW.out.trans (hb'.mono BW.out.size)⟩
        rw [idx_hit hlt HQ.out (fun j hj => AA.out j hj (by omega))]
        rfl
      | false =>
        rw [hq] at hcall
        have HQ := Aside0.mk hq
        clear hq
        go_wp2_with (go_at_fn g; refine hcall.mono ?_; rintro e w' ⟨rfl, hb'⟩)
        go_roundg (l.length - (kk + 1))
        case measure => omega
        case rel =>
          refine ⟨kk + 1, by omega, by omega, by go_num, Aside0.mk (BW.out.trans (hb'.mono BW.out.size)), Aside0.mk (fun j hj h2 => ?_)⟩
          by_cases e : j = kk
          · subst e
            exact HQ.out
          · exact AA.out j (by omega) h2
    · have hltz : ¬ (kk : Int) < (l.length : Int) := by omega
      have HK : kk = l.length := by omega
      have HK2 := Aside0.mk HK
      clear HK
      go_wp2
      go_ret
      refine ⟨?_, BW.out⟩
      rw [idx_miss (fun j hj => AA.out j (by have := HK2.out; omega) hj)]
      rfl

end Go.Proofs.Ytmhiaggpnkihcaa.Q
