import Derived.Test.YtacimfnaacdobaaDoorSFnExactDesignText
import Derived.Test.YtacimfnaacdobaaDoorMTX
namespace Go.Proofs.YtacimfnaacdobaaDoor.Wk
open Go Go.RowKit Go.Proofs.YtacimfnaacdobaaDoor.Q Go.Proofs.YtacimfnaacdobaaDoor.M Go.Proofs.YtacimfnaacdobaaDoorW.PrintWords Go.Proofs.YtacimfnaacdobaaDoorW.Pl Go.Proofs.YtacimfnaacdobaaDoor.WK.Txt
set_option linter.unusedVariables false
/-- For every program: its text is the reference's, and nothing handed in is written. -/
theorem FnExactDesignText (l0 : List S46) (A0 : Option Addr) (c0 : Nat) (w : World) (hr0 : Kd.C k46 w A0 l0.length l0) (hc0 : l0.length ≤ c0) (q0 : l0.length ≤ maxLen ∧ ∀ x ∈ l0, g46 x) (htab : Lib.TabIs Tryd.prog w tabName .u64 Lib.pow10Tab) : Calls Tryd.prog 4 #[.slice A0 l0.length c0] w fun e w' => e = .returned (.bool true) ∧ Below w.heap.size w w' := by
  obtain ⟨r, hz, hc⟩ := szDesigns l0 q0.1
  by_cases hr : r < 0
  · exact lawA l0 A0 c0 w htab hr0 hc0 r hz hr
  have hm : l0.length ≤ 1048576 := by
    rcases Nat.lt_or_ge 1048576 l0.length with h | h
    · exact absurd (hc.2 h) hr
    · exact h
  obtain ⟨kt, ht⟩ := (toDesigns l0 hm).rounds
  have hl : (l0.map cvDesign).length ≤ 1048576 := by simpa using hm
  generalize l0.map cvDesign = l at hl ht
  obtain ⟨kq, hq⟩ := (eqDesigns l hl).rounds
  obtain ⟨ks, hs⟩ := (sGood l hl).rounds
  obtain ⟨ki, hi⟩ := (iGood l hl).rounds
  cases hg : goodD l with
  | false =>
    rw [hg] at hs hi
    exact lawB l0 A0 c0 w htab hr0 hc0 r hz hr l kt ht _ _ kq hq (fun A c w h1 h2 => sNo A c l ks hs w h1 h2) (fun A c w ht h1 h2 => iNo A c l ki hi w ht h1 h2)
  | true =>
    rw [hg] at hs hi
    exact lawB l0 A0 c0 w htab hr0 hc0 r hz hr l kt ht _ _ kq hq (fun A c w h1 h2 => sYes A c l ks hs hg w h1 h2) (fun A c w ht h1 h2 => iYes A c l ki hi hg w ht h1 h2)
end Go.Proofs.YtacimfnaacdobaaDoor.Wk
