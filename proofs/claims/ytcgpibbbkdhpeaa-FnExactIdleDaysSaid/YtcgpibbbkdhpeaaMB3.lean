import Derived.Test.YtcgpibbbkdhpeaaMB
import Derived.Test.YtcgpibbbkdhpeaaQx28
import Derived.Test.YtcgpibbbkdhpeaaQx29
namespace Go.Proofs.Ytcgpibbbkdhpeaa.M
open Go.RowKit Go.Proofs.Ytcgpibbbkdhpeaa.Q Go.Proofs.YtcgpibbbkdhpeaaW.PrintWords Go.Proofs.YtcgpibbbkdhpeaaW.PrintLast Go.Proofs.YtcgpibbbkdhpeaaW.Pl Classical
set_option linter.unusedSimpArgs false
set_option linter.unusedVariables false

theorem idleBoth (l : List S51) (m p : List Int) (a : Int) (hl : l.length ≤ 1048576) (hm : m.length ≤ 1048576) : ∃ q : Int × Bool, Ev (fun k => spec_IdleDays.f k l m p a) q ∧ Ev (fun k => impl_IdleDays.f k l m p a) q := by
  unfold spec_IdleDays.f impl_IdleDays.f
  by_cases h : asked l m p = true
  · obtain ⟨h1, h2, h3⟩ := sEnds l m p h
    obtain ⟨b1, b2, b3, _, _⟩ := asked_at h
    by_cases ha : 0 ≤ a ∧ a ≤ (m.length : Int) - 1
    · have main : ∀ d (i : Nat) (s : Int), p.length - i = d → i ≤ p.length → ∃ q : Int × Bool, Ev (fun k => spec_IdleDays.l0 k l p a s (i : Int)) q ∧ Ev (fun k => impl_IdleDays.l0 k l a s p (p.length : Int) (i : Int)) q := by
        intro d
        induction d with
        | zero =>
          intro i s hd hi
          have hil : i = p.length := by omega
          subst hil
          refine ⟨(s, true), Ev.succ ?_, Ev.succ ?_⟩
          · simp only [spec_IdleDays.l0, if_neg (show ¬ ((p.length : Int) < (p.length : Int)) by omega)]
            exact Ev.now _
          · simp only [impl_IdleDays.l0, if_neg (show ¬ ((p.length : Int) < (p.length : Int)) by omega)]
            exact Ev.now _
        | succ d ih =>
          intro i s hd hi
          by_cases e : nth p i 0 = a
          · obtain ⟨q, g1, g2⟩ := ih (i + 1) (wrap64 (s - (nth l i z51).f2)) (by omega) (by omega)
            refine ⟨q, Ev.succ ?_, Ev.succ ?_⟩
            · simp only [spec_IdleDays.l0, rdI, rd51, if_pos (show (i : Int) < (p.length : Int) by omega), if_pos (show (0 : Int) ≤ (i : Int) by omega), if_pos e, if_pos (show (i : Int) < (l.length : Int) by omega), stepI i (by omega)]
              exact g1
            · simp only [impl_IdleDays.l0, rdI, rd51, if_pos (show (i : Int) < (p.length : Int) by omega), if_pos (show (0 : Int) ≤ (i : Int) by omega), if_pos e, if_pos (show (i : Int) < (l.length : Int) by omega), stepI i (by omega)]
              exact g2
          · obtain ⟨q, g1, g2⟩ := ih (i + 1) s (by omega) (by omega)
            refine ⟨q, Ev.succ ?_, Ev.succ ?_⟩
            · simp only [spec_IdleDays.l0, rdI, rd51, if_pos (show (i : Int) < (p.length : Int) by omega), if_pos (show (0 : Int) ≤ (i : Int) by omega), if_neg e, stepI i (by omega)]
              exact g1
            · simp only [impl_IdleDays.l0, rdI, rd51, if_pos (show (i : Int) < (p.length : Int) by omega), if_pos (show (0 : Int) ≤ (i : Int) by omega), if_neg e, stepI i (by omega)]
              exact g2
      obtain ⟨q, g1, g2⟩ := main p.length 0 (rd (endsOf l m p).2 a) (by omega) (by omega)
      refine ⟨q, Ev.bind (sAsked l m p hl hm) ?_, Ev.bind (iAsked l m p hl hm) ?_⟩
      · simp only [h, if_true, l1In, Option.bind_some, w64 (x := (m.length : Int) - 1) (by omega), ha, and_self, decide_true, Bool.not_true]
        refine Ev.succ ?_
        simp only [spec_IdleDays.j0, Bool.false_eq_true, if_false]
        refine Ev.bind h1 ?_
        simp only [if_pos ha.1, if_pos (show a < ((endsOf l m p).2.length : Int) by omega)]
        exact g1
      · simp only [h, if_true, iIn, Option.bind_some, w64 (x := (m.length : Int) - 1) (by omega), ha, and_self, decide_true, Bool.not_true]
        refine Ev.succ ?_
        simp only [impl_IdleDays.j0, Bool.false_eq_true, if_false]
        refine Ev.bind (iEnds l m p h) ?_
        simp only [if_pos ha.1, if_pos (show a < ((endsOf l m p).2.length : Int) by omega)]
        exact g2
    · refine ⟨(0, false), Ev.bind (sAsked l m p hl hm) ?_, Ev.bind (iAsked l m p hl hm) ?_⟩
      · simp only [h, if_true, l1In, Option.bind_some, w64 (x := (m.length : Int) - 1) (by omega), ha, decide_false, Bool.not_false]
        refine Ev.succ ?_
        simp only [spec_IdleDays.j0, if_true]
        exact Ev.now _
      · simp only [h, if_true, iIn, Option.bind_some, w64 (x := (m.length : Int) - 1) (by omega), ha, decide_false, Bool.not_false]
        refine Ev.succ ?_
        simp only [impl_IdleDays.j0, if_true]
        exact Ev.now _
  · refine ⟨(0, false), Ev.bind (sAsked l m p hl hm) ?_, Ev.bind (iAsked l m p hl hm) ?_⟩
    · simp only [h, Bool.false_eq_true, if_false]
      refine Ev.succ ?_
      simp only [spec_IdleDays.j0, if_true]
      exact Ev.now _
    · simp only [h, Bool.false_eq_true, if_false]
      refine Ev.succ ?_
      simp only [impl_IdleDays.j0, if_true]
      exact Ev.now _
end Go.Proofs.Ytcgpibbbkdhpeaa.M
