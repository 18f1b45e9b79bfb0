import Derived.Test.YthmgiagecgkmiaaDoorSFnExactMonthReport
import Derived.Test.YthmgiagecgkmiaaDoorMTR
namespace Go.Proofs.YthmgiagecgkmiaaDoor.Wk
open Go Go.RowKit Go.Proofs.YthmgiagecgkmiaaDoor.Q Go.Proofs.YthmgiagecgkmiaaDoor.M Go.Proofs.YthmgiagecgkmiaaDoorW.PrintWords Go.Proofs.YthmgiagecgkmiaaDoorW.Pl Go.Proofs.YthmgiagecgkmiaaDoor.WK.Txt Go.Proofs.YthmgiagecgkmiaaDoor.WK.Rep
set_option linter.unusedVariables false
/-- For every rows: the program's report is the reference's, and nothing handed in is written. -/
theorem FnExactMonthReport (l0 : List S26) (A0 : Option Addr) (c0 : Nat) (w : World) (hr0 : Kd.C k26 w A0 l0.length l0) (hc0 : l0.length ≤ c0) (q0 : l0.length ≤ maxLen ∧ ∀ x ∈ l0, g26 x) (htab : Lib.TabIs Tryd.prog w tabName .u64 Lib.pow10Tab) : Calls Tryd.prog 5 #[.slice A0 l0.length c0] w fun e w' => e = .returned (.bool true) ∧ Below w.heap.size w w' := by
  obtain ⟨r, hz, hc⟩ := szRows l0 q0.1
  by_cases hr : r < 0
  · exact lawA l0 A0 c0 w htab hr0 hc0 r hz hr
  have hm : l0.length ≤ 1048576 := by omega
  obtain ⟨kt, ht⟩ := (toRows l0 hm).rounds
  have hl : (l0.map cvM).length ≤ 1048576 := by simpa using hm
  generalize l0.map cvM = l at hl ht
  obtain ⟨kq, hq⟩ := (eqRows l hl).rounds
  obtain ⟨ks, hs⟩ := (sGood l hl).rounds
  obtain ⟨ki, hi⟩ := (iGood l hl).rounds
  cases hg : goodM l with
  | false =>
    rw [hg] at hs hi
    exact lawB l0 A0 c0 w htab hr0 hc0 r hz hr l kt ht _ _ kq hq (fun A c w h1 h2 => sNo A c l ks hs w h1 h2) (fun A c w ht h1 h2 => iNo A c l ki hi w ht h1 h2)
  | true =>
    rw [hg] at hs hi
    by_cases hp : -100000000 ≤ pS l l.length ∧ pS l l.length ≤ 100000000
    · have e1 : spec_l26Cents.f (pS l l.length) = some true := by simp [spec_l26Cents.f, spec_l1In.f, hp.1, hp.2]
      have e2 : impl_isCents.f (pS l l.length) = some true := by simp [impl_isCents.f, impl_in.f, hp.1, hp.2]
      exact lawB l0 A0 c0 w htab hr0 hc0 r hz hr l kt ht _ _ kq hq (fun A c w h1 h2 => sT A c l ks hs hg e1 w h1 h2) (fun A c w ht h1 h2 => iT A c l ki hi hg e2 w ht h1 h2)
    · have e1 : spec_l26Cents.f (pS l l.length) = some false := by
        simp only [spec_l26Cents.f, l1In, Option.bind_some, decide_eq_false hp]
      have e2 : impl_isCents.f (pS l l.length) = some false := by
        simp only [impl_isCents.f, iIn, Option.bind_some, decide_eq_false hp]
      exact lawB l0 A0 c0 w htab hr0 hc0 r hz hr l kt ht _ _ kq hq (fun A c w h1 h2 => sF A c l ks hs hg e1 w h1 h2) (fun A c w ht h1 h2 => iF A c l ki hi hg e2 w ht h1 h2)
end Go.Proofs.YthmgiagecgkmiaaDoor.Wk
