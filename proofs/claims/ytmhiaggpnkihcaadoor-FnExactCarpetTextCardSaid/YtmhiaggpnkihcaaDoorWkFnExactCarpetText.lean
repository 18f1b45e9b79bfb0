import Derived.Test.YtmhiaggpnkihcaaDoorSFnExactCarpetText
import Derived.Test.YtmhiaggpnkihcaaDoorMTX
namespace Go.Proofs.YtmhiaggpnkihcaaDoor.Wk
open Go Go.RowKit Go.Proofs.YtmhiaggpnkihcaaDoor.Q Go.Proofs.YtmhiaggpnkihcaaDoor.M Go.Proofs.YtmhiaggpnkihcaaDoorW.PrintWords Go.Proofs.YtmhiaggpnkihcaaDoorW.Pl Go.Proofs.YtmhiaggpnkihcaaDoor.WK.Txt
set_option linter.unusedVariables false
/-- For every shop and number: the program's text of a carpet is the reference's, and nothing handed in is written. -/
theorem FnExactCarpetText (day looms : Int) (l0 : List S48) (mon at_ : Int) (A0 : Option Addr) (c0 : Nat) (w : World) (hr0 : Kd.C k48 w A0 l0.length l0) (hc0 : l0.length ≤ c0) (q0 : g24 (⟨day, looms, l0, mon⟩ : S24)) (q1 : (Lit.int .i64 at_).wf = true) (htab : Lib.TabIs Tryd.prog w tabName .u64 Lib.pow10Tab) : Calls Tryd.prog 3 #[.agg #[.int .i64 day, .int .i64 looms, .slice A0 l0.length c0, .int .i64 mon], .int .i64 at_] w fun e w' => e = .returned (.bool true) ∧ Below w.heap.size w w' := by
  have hm : l0.length ≤ maxLen := by unfold g24 at q0; exact q0.2.2.1.1
  obtain ⟨r, hz, hc⟩ := szShop day looms mon l0 hm
  by_cases hr : r < 0
  · exact lawA l0 day looms mon at_ A0 c0 w htab hr0 hc0 r hz hr
  have hm2 : l0.length ≤ 1048576 := by omega
  have hto : Ev (fun k => laws_toShop.f k day looms l0 mon) (day, looms, l0.map cvC, mon) := by
    unfold laws_toShop.f
    exact Ev.bind (toCarpets l0 hm2) (Ev.now _)
  obtain ⟨kt, ht⟩ := hto.rounds
  have hl : (l0.map cvC).length ≤ 1048576 := by simpa using hm2
  generalize l0.map cvC = l at hl ht
  have heq : Ev (fun k => laws_eqShop.f k day looms l mon day looms l mon) true := by
    unfold laws_eqShop.f
    simp only [if_true]
    exact Ev.bind (eqCarpets _ hl) (by simp only [if_true]; exact Ev.now _)
  obtain ⟨kq, hq⟩ := heq.rounds
  obtain ⟨ks, hs⟩ := (sGood day looms mon l).rounds
  obtain ⟨ki, hi⟩ := (iGood day looms mon l).rounds
  cases hg : goodS day looms l mon with
  | false =>
    rw [hg] at hs hi
    exact lawB l0 day looms mon at_ A0 c0 w htab hr0 hc0 r hz hr l kt ht _ _ kq hq (fun A c w h1 h2 => sNo1 A c l day looms mon at_ ks hs w h1 h2) (fun A c w ht h1 h2 => iNo1 A c l day looms mon at_ ki hi w ht h1 h2)
  | true =>
    rw [hg] at hs hi
    obtain ⟨_, hl8, hok⟩ := good_at hg
    have hl4 := good_l hg
    by_cases ha : 0 ≤ at_ ∧ at_ ≤ (l.length : Int) - 1
    · have e1 : spec_l1In.f at_ 0 ((l.length : Int) - 1) = some true := by rw [l1In, decide_eq_true ha]
      have e2 : impl_in.f at_ 0 ((l.length : Int) - 1) = some true := by rw [iIn, decide_eq_true ha]
      have hx := hok at_.toNat (by omega)
      obtain ⟨b1, b2, b3, _⟩ := okC_b hx
      obtain ⟨b4, b5⟩ := okC_l hx
      by_cases hp : (nth l at_.toNat z39).f3 > 0
      · exact lawB l0 day looms mon at_ A0 c0 w htab hr0 hc0 r hz hr l kt ht _ _ kq hq (fun A c w h1 h2 => sYes A c l day looms mon at_ ks hs hl8 e1 (by omega) (nth l at_.toNat z39) rfl (by omega) (by omega) (by omega) (by omega) w h1 h2) (fun A c w ht h1 h2 => iYesP A c l day looms mon at_ ki hi hl8 e2 (by omega) (nth l at_.toNat z39) rfl (by omega) (by omega) (by omega) (by omega) hp w ht h1 h2)
      · exact lawB l0 day looms mon at_ A0 c0 w htab hr0 hc0 r hz hr l kt ht _ _ kq hq (fun A c w h1 h2 => sYes A c l day looms mon at_ ks hs hl8 e1 (by omega) (nth l at_.toNat z39) rfl (by omega) (by omega) (by omega) (by omega) w h1 h2) (fun A c w ht h1 h2 => iYesN A c l day looms mon at_ ki hi hl8 e2 (by omega) (nth l at_.toNat z39) rfl (by omega) (by omega) (by omega) (by omega) hp w ht h1 h2)
    · have e1 : spec_l1In.f at_ 0 ((l.length : Int) - 1) = some false := by rw [l1In, decide_eq_false ha]
      have e2 : impl_in.f at_ 0 ((l.length : Int) - 1) = some false := by rw [iIn, decide_eq_false ha]
      exact lawB l0 day looms mon at_ A0 c0 w htab hr0 hc0 r hz hr l kt ht _ _ kq hq (fun A c w h1 h2 => sNo2 A c l day looms mon at_ ks hs hl8 e1 w h1 h2) (fun A c w ht h1 h2 => iNo2 A c l day looms mon at_ ki hi hl8 e2 w ht h1 h2)
end Go.Proofs.YtmhiaggpnkihcaaDoor.Wk
