import Derived.Test.YtcgpibbbkdhpeaaMB
import Derived.Test.YtcgpibbbkdhpeaaQx30
import Derived.Test.YtcgpibbbkdhpeaaQx31
import Derived.Test.YtcgpibbbkdhpeaaQx64
import Derived.Test.YtcgpibbbkdhpeaaQx65
namespace Go.Proofs.Ytcgpibbbkdhpeaa.M
open Go.RowKit Go.Proofs.Ytcgpibbbkdhpeaa.Q Go.Proofs.YtcgpibbbkdhpeaaW.PrintWords Go.Proofs.YtcgpibbbkdhpeaaW.PrintLast Go.Proofs.YtcgpibbbkdhpeaaW.Pl Classical
set_option linter.unusedSimpArgs false
set_option linter.unusedVariables false

/-- The sum of the late days. -/
def lateOf (l : List S51) (e : List Int) : Int := (List.range e.length).foldl (fun s i => wrap64 (s + mx 0 (wrap64 (nth e i 0 - (nth l i z51).f4)))) 0
theorem lateBoth (l : List S51) (m p : List Int) (hl : l.length ≤ 1048576) (hm : m.length ≤ 1048576) : ∃ q : Int × Bool, Ev (fun k => spec_LateDays.f k l m p) q ∧ Ev (fun k => impl_LateDays.f k l m p) q := by
  unfold spec_LateDays.f impl_LateDays.f
  by_cases h : asked l m p = true
  · obtain ⟨h1, h2, h3⟩ := sEnds l m p h
    obtain ⟨b1, b2, b3, _, _⟩ := asked_at h
    refine ⟨(lateOf l (endsOf l m p).1, true), Ev.bind (sAsked l m p hl hm) ?_, Ev.bind (iAsked l m p hl hm) ?_⟩
    · simp only [h, if_true]
      refine Ev.bind (a := lateOf l (endsOf l m p).1) ?_ (Ev.now _)
      unfold spec_l16Late.f
      refine Ev.bind h1 ?_
      refine foldE (endsOf l m p).1.length (fun i s => wrap64 (s + mx 0 (wrap64 (nth (endsOf l m p).1 i 0 - (nth l i z51).f4)))) (fun k s i => spec_l16Late.l0 k l (endsOf l m p).1 s i) (fun s => s) ?_ ?_ 0
      · intro i s q hi hq
        refine Ev.succ ?_
        simp only [spec_l16Late.l0, rdI, rd51, most, Option.bind_some, if_pos (show (i : Int) < ((endsOf l m p).1.length : Int) by omega), if_pos (show (0 : Int) ≤ (i : Int) by omega), if_pos (show (i : Int) < (l.length : Int) by omega), stepI i (by omega)]
        exact hq
      · intro s
        refine Ev.succ ?_
        simp only [spec_l16Late.l0, if_neg (show ¬ (((endsOf l m p).1.length : Int) < ((endsOf l m p).1.length : Int)) by omega)]
        exact Ev.now _
    · simp only [h, if_true]
      refine Ev.bind (a := lateOf l (endsOf l m p).1) ?_ (Ev.now _)
      unfold impl_lateDays.f
      refine Ev.bind (iEnds l m p h) ?_
      refine foldE (endsOf l m p).1.length (fun i s => wrap64 (s + mx 0 (wrap64 (nth (endsOf l m p).1 i 0 - (nth l i z51).f4)))) (fun k s i => impl_lateDays.l0 k l s (endsOf l m p).1 ((endsOf l m p).1.length : Int) i) (fun s => s) ?_ ?_ 0
      · intro i s q hi hq
        refine Ev.succ ?_
        simp only [impl_lateDays.l0, rdI, rd51, Option.bind_some, if_pos (show (i : Int) < ((endsOf l m p).1.length : Int) by omega), if_pos (show (0 : Int) ≤ (i : Int) by omega), if_pos (show (i : Int) < (l.length : Int) by omega), stepI i (by omega)]
        exact hq
      · intro s
        refine Ev.succ ?_
        simp only [impl_lateDays.l0, if_neg (show ¬ (((endsOf l m p).1.length : Int) < ((endsOf l m p).1.length : Int)) by omega)]
        exact Ev.now _
  · refine ⟨(0, false), Ev.bind (sAsked l m p hl hm) ?_, Ev.bind (iAsked l m p hl hm) ?_⟩ <;>
    · simp only [h, Bool.false_eq_true, if_false]
      exact Ev.now _
end Go.Proofs.Ytcgpibbbkdhpeaa.M
