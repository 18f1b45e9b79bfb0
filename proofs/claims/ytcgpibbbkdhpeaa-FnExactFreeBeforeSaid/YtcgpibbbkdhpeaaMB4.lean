import Derived.Test.YtcgpibbbkdhpeaaMB
import Derived.Test.YtcgpibbbkdhpeaaQx36
import Derived.Test.YtcgpibbbkdhpeaaQx37
namespace Go.Proofs.Ytcgpibbbkdhpeaa.M
open Go.RowKit Go.Proofs.Ytcgpibbbkdhpeaa.Q Go.Proofs.YtcgpibbbkdhpeaaW.PrintWords Go.Proofs.YtcgpibbbkdhpeaaW.PrintLast Go.Proofs.YtcgpibbbkdhpeaaW.Pl Classical
set_option linter.unusedSimpArgs false
set_option linter.unusedVariables false

theorem beforeBoth (l : List S51) (m p : List Int) (a : Int) (hl : l.length ≤ 1048576) (hm : m.length ≤ 1048576) : ∃ q : List Int × Bool, q.1.length ≤ 1048576 ∧ Ev (fun k => spec_FreeBefore.f k l m p a) q ∧ Ev (fun k => impl_FreeBefore.f k l m p a) q := by
  unfold spec_FreeBefore.f impl_FreeBefore.f
  simp only [Option.bind_some]
  by_cases h : asked l m p = true
  · obtain ⟨h1, h2, h3⟩ := sEnds l m p h
    obtain ⟨b1, b2, b3, _, _⟩ := asked_at h
    by_cases ha : 0 ≤ a ∧ a ≤ 100000
    · generalize hF : (endsOf l m p).2 = F at *
      have main : ∀ d (i : Nat) (s : List Int), F.length - i = d → i ≤ F.length → s.length ≤ i → ∃ q : List Int × Bool, q.1.length ≤ 1048576 ∧ Ev (fun k => spec_FreeBefore.l0 k a s F (i : Int)) q ∧ Ev (fun k => impl_FreeBefore.l0 k a s F (F.length : Int) (i : Int)) q := by
        intro d
        induction d with
        | zero =>
          intro i s hd hi hs
          have hil : i = F.length := by omega
          subst hil
          refine ⟨(s, true), by simp only; omega, Ev.succ ?_, Ev.succ ?_⟩
          · simp only [spec_FreeBefore.l0, if_neg (show ¬ ((F.length : Int) < (F.length : Int)) by omega)]
            exact Ev.now _
          · simp only [impl_FreeBefore.l0, if_neg (show ¬ ((F.length : Int) < (F.length : Int)) by omega)]
            exact Ev.now _
        | succ d ih =>
          intro i s hd hi hs
          by_cases e : nth F i 0 ≤ a
          · obtain ⟨q, hq, g1, g2⟩ := ih (i + 1) (s ++ [(i : Int)]) (by omega) (by omega) (by simp; omega)
            refine ⟨q, hq, Ev.succ ?_, Ev.succ ?_⟩
            · simp only [spec_FreeBefore.l0, rdI, if_pos (show (i : Int) < (F.length : Int) by omega), if_pos (show (0 : Int) ≤ (i : Int) by omega), if_pos e, if_pos (show s.length < 17592186044416 by omega), stepI i (by omega)]
              exact g1
            · simp only [impl_FreeBefore.l0, rdI, if_pos (show (i : Int) < (F.length : Int) by omega), if_pos (show (0 : Int) ≤ (i : Int) by omega), if_pos e, if_pos (show s.length < 17592186044416 by omega), stepI i (by omega)]
              exact g2
          · obtain ⟨q, hq, g1, g2⟩ := ih (i + 1) s (by omega) (by omega) (by omega)
            refine ⟨q, hq, Ev.succ ?_, Ev.succ ?_⟩
            · simp only [spec_FreeBefore.l0, rdI, if_pos (show (i : Int) < (F.length : Int) by omega), if_pos (show (0 : Int) ≤ (i : Int) by omega), if_neg e, stepI i (by omega)]
              exact g1
            · simp only [impl_FreeBefore.l0, rdI, if_pos (show (i : Int) < (F.length : Int) by omega), if_pos (show (0 : Int) ≤ (i : Int) by omega), if_neg e, stepI i (by omega)]
              exact g2
      obtain ⟨q, hq, g1, g2⟩ := main F.length 0 [] (by omega) (by omega) (by simp)
      refine ⟨q, hq, Ev.bind (sAsked l m p hl hm) ?_, Ev.bind (iAsked l m p hl hm) ?_⟩
      · simp only [h, if_true, l1In, Option.bind_some, ha, and_self, decide_true, Bool.not_true]
        refine Ev.succ ?_
        simp only [spec_FreeBefore.j0, Bool.false_eq_true, if_false]
        refine Ev.bind h1 ?_
        simp only [hF]
        exact g1
      · simp only [h, if_true, iIn, Option.bind_some, ha, and_self, decide_true, Bool.not_true]
        refine Ev.succ ?_
        simp only [impl_FreeBefore.j0, Bool.false_eq_true, if_false]
        refine Ev.bind (iEnds l m p h) ?_
        simp only [hF]
        exact g2
    · refine ⟨([], false), by simp, Ev.bind (sAsked l m p hl hm) ?_, Ev.bind (iAsked l m p hl hm) ?_⟩
      · simp only [h, if_true, l1In, Option.bind_some, ha, decide_false, Bool.not_false]
        refine Ev.succ ?_
        simp only [spec_FreeBefore.j0, if_true]
        exact Ev.now _
      · simp only [h, if_true, iIn, Option.bind_some, ha, decide_false, Bool.not_false]
        refine Ev.succ ?_
        simp only [impl_FreeBefore.j0, if_true]
        exact Ev.now _
  · refine ⟨([], false), by simp, Ev.bind (sAsked l m p hl hm) ?_, Ev.bind (iAsked l m p hl hm) ?_⟩
    · simp only [h, Bool.false_eq_true, if_false]
      refine Ev.succ ?_
      simp only [spec_FreeBefore.j0, if_true]
      exact Ev.now _
    · simp only [h, Bool.false_eq_true, if_false]
      refine Ev.succ ?_
      simp only [impl_FreeBefore.j0, if_true]
      exact Ev.now _
end Go.Proofs.Ytcgpibbbkdhpeaa.M
