/- What is told of a book's profits: for every code that is drawn from. -/
import Derived.Test.YthmgiagecgkmiaaSFnProfits
import Derived.Test.YthmgiagecgkmiaaMFX
import Derived.Test.YthmgiagecgkmiaaMFE
import Derived.Test.YthmgiagecgkmiaaMFW
namespace Go.Proofs.Ythmgiagecgkmiaa.Pure
open Go.RowKit Go.Proofs.Ythmgiagecgkmiaa.Q Go.Proofs.Ythmgiagecgkmiaa.M Go.Proofs.YthmgiagecgkmiaaW.PrintWords Go.Proofs.YthmgiagecgkmiaaW.Pl
set_option linter.unusedSimpArgs false

theorem knotsPart {c : List Int} (hl : CodeL c) : Ev (fun k => laws_FnProfits.j7 k c false) true := by
  obtain ⟨r, hr, hlen⟩ := drawRows hl
  obtain ⟨q, h1, h2⟩ := knotsBoth r (by omega)
  refine Ev.succ ?_
  simp only [laws_FnProfits.j7, Bool.false_eq_true, if_false, spec_DrawKnotsAnHour.f, spec_AreMonthRows.f]
  refine Ev.bind (Ev.bind hr (Ev.now _)) ?_
  refine Ev.bind h2 ?_
  refine Ev.bind h1 ?_
  simp only [if_true, beq_self_eq_true]
  refine Ev.bind (iGood r (by omega)) ?_
  refine Ev.bind (Ev.bind (sGood r (by omega)) (Ev.now _)) ?_
  simp only [beq_self_eq_true]
  exact Ev.now _
theorem countPart {c : List Int} (hl : CodeL c) (r : List S25) (hr : r.length ≤ 13) (f t : Int) (ok : Bool) (h : ok = true → goodM r = true ∧ RunOf r f t) : Ev (fun k => laws_FnProfits.l1 k c r f t ok 0 0) true := by
  cases ok with
  | false =>
    refine Ev.succ ?_
    simp only [laws_FnProfits.l1, ite_self]
    refine Ev.succ ?_
    simp only [laws_FnProfits.j5, Bool.false_eq_true, if_false]
    exact knotsPart hl
  | true =>
    obtain ⟨hg, s, n, hn1, hsn, ht, hk⟩ := h rfl
    have hb := mo_bound r hg
    have k0 := (hk 0 (by omega)).1
    have b0 := hb (s + 0) (by omega)
    have main : ∀ d (i cnt : Nat), r.length - i = d → i ≤ r.length → (i ≤ s → cnt = 0) → (s ≤ i → i ≤ s + n → cnt = i - s) → (s + n ≤ i → cnt = n) → Ev (fun k => laws_FnProfits.l1 k c r f t true (cnt : Int) (i : Int)) true := by
      intro d
      induction d with
      | zero =>
        intro i cnt hd hi c1 c2 c3
        have hc := c3 (by omega)
        subst hc
        refine Ev.succ ?_
        simp only [laws_FnProfits.l1, if_neg (show ¬ ((i : Int) < (r.length : Int)) by omega)]
        refine Ev.succ ?_
        simp only [laws_FnProfits.j5, Bool.false_eq_true, if_false, if_true, w64 (x := t - f) (by omega), w64 (x := t - f + 1) (by omega)]
        rw [show (((cnt : Int)) != t - f + 1) = false by rw [bne_eq_false_iff_eq]; omega]
        exact knotsPart hl
      | succ d ih =>
        intro i cnt hd hi c1 c2 c3
        have hlt : i < r.length := by omega
        have hcn : cnt ≤ n := by omega
        have hbi := hb i hlt
        have m1 := money r hg i hlt
        have e0 : (rd_T25 r (i : Int)).f0 = mo r i := by rw [rd25]; rfl
        have e4 : (rd_T25 r (i : Int)) = nth r i z25 := rd25 r i
        refine Ev.succ ?_
        simp only [laws_FnProfits.l1, if_pos (show (i : Int) < (r.length : Int) by omega)]
        refine Ev.succ ?_
        simp only [laws_FnProfits.j5, if_true, if_pos (show (i : Int) < (r.length : Int) by omega), if_pos (show (0 : Int) ≤ (i : Int) by omega), e0]
        by_cases hin : s ≤ i ∧ i < s + n
        · have hki := hk (i - s) (by omega)
          rw [show s + (i - s) = i by omega] at hki
          obtain ⟨hm, hp⟩ := hki
          have hlt2 : ¬ ((nth r i z25).f4 ≥ (nth r i z25).f5) := by
            unfold prd at hp
            rw [w64 (by omega)] at hp
            omega
          simp only [if_pos (show mo r i ≥ f by omega), decide_eq_true (show mo r i ≤ t by omega)]
          refine Ev.succ ?_
          simp only [laws_FnProfits.j6, if_true, if_pos (show (i : Int) < (r.length : Int) by omega), if_pos (show (0 : Int) ≤ (i : Int) by omega), e4, if_neg hlt2, stepI cnt (by omega), stepI i (by omega)]
          exact ih (i + 1) (cnt + 1) (by omega) (by omega) (by omega) (by omega) (by omega)
        · have hnext : Ev (fun k => laws_FnProfits.l1 k c r f t true (cnt : Int) ((i + 1 : Nat) : Int)) true := ih (i + 1) cnt (by omega) (by omega) (by omega) (by omega) (by omega)
          have hj6 : Ev (fun k => laws_FnProfits.j6 k c r f t true (cnt : Int) (i : Int) false) true := by
            refine Ev.succ ?_
            simp only [laws_FnProfits.j6, Bool.false_eq_true, if_false, stepI i (by omega)]
            exact hnext
          by_cases hs : i < s
          · have hm := mo_lt r hg (s + 0) i (by omega) (by omega)
            simp only [if_neg (show ¬ (mo r i ≥ f) by omega)]
            exact hj6
          · have kl := (hk (n - 1) (by omega)).1
            have hm := mo_lt r hg i (s + (n - 1)) (by omega) (by omega)
            simp only [if_pos (show mo r i ≥ f by omega), decide_eq_false (show ¬ (mo r i ≤ t) by omega)]
            exact hj6
    exact main r.length 0 0 (by omega) (by omega) (by omega) (by omega) (by omega)
theorem lossPart {c : List Int} (hl : CodeL c) (rows : List S25) (ms : List Int) (b : Int) (ok : Bool) (i : Int) : Ev (fun k => laws_FnProfits.j2 k c rows ms b ok i false) true := by
  obtain ⟨r, hr, hlen⟩ := drawRows hl
  obtain ⟨q, h1, h2⟩ := lossBoth r (by omega)
  refine Ev.succ ?_
  simp only [laws_FnProfits.j2, Bool.false_eq_true, if_false, spec_DrawLossRun.f]
  refine Ev.bind (Ev.bind hr (Ev.now _)) ?_
  refine Ev.bind h2 ?_
  refine Ev.bind h1 ?_
  simp only [if_true, bne_self_eq_false]
  refine Ev.succ ?_
  simp only [laws_FnProfits.j3, Bool.false_eq_true, if_false]
  exact countPart hl r hlen _ _ _ (fun hq => lossProp r (by omega) q h1 hq)
theorem bestPart {c : List Int} (hl : CodeL c) (rows : List S25) (hr : rows.length ≤ 13) : Ev (fun k => laws_FnProfits.l0 k c rows (bestRes rows).1 (bestRes rows).2.1 (bestRes rows).2.2 0) true := by
  unfold bestRes
  by_cases hg : goodM rows = true ∧ rows.length ≠ 0
  · simp only [if_pos hg]
    have hlen := monthsOf_len rows (bestTo rows rows.length) rows.length
    have main : ∀ d (i : Nat), rows.length - i = d → i ≤ rows.length → Ev (fun k => laws_FnProfits.l0 k c rows (monthsOf rows (bestTo rows rows.length) rows.length) (bestTo rows rows.length) true (i : Int)) true := by
      intro d
      induction d with
      | zero =>
        intro i hd hi
        refine Ev.succ ?_
        simp only [laws_FnProfits.l0, if_neg (show ¬ ((i : Int) < (rows.length : Int)) by omega)]
        exact lossPart hl _ _ _ _ _
      | succ d ih =>
        intro i hd hi
        have hlt : i < rows.length := by omega
        have hge := bestTo_ge rows rows.length i hlt
        have e4 : (rd_T25 rows (i : Int)) = nth rows i z25 := rd25 rows i
        refine Ev.succ ?_
        simp only [laws_FnProfits.l0, if_pos (show (i : Int) < (rows.length : Int) by omega)]
        refine Ev.succ ?_
        have ep : wrap64 ((nth rows i z25).f4 - (nth rows i z25).f5) = pr rows i := rfl
        simp only [laws_FnProfits.j2, if_true, if_pos (show (i : Int) < (rows.length : Int) by omega), if_pos (show (0 : Int) ≤ (i : Int) by omega), e4, ep, if_neg (show ¬ (pr rows i > bestTo rows rows.length) by omega)]
        refine Ev.bind (hasE _ _ (by omega)) ?_
        have e : decide ((nth rows i z25).f0 ∈ monthsOf rows (bestTo rows rows.length) rows.length) = (pr rows i == bestTo rows rows.length) := by
          rw [Bool.eq_iff_iff, decide_eq_true_iff, beq_iff_eq, mem_months]
          constructor
          · rintro ⟨j, h1, h2, h3⟩
            have h4 : mo rows j = mo rows i := h3
            by_cases e : j = i
            · subst e; exact h2
            · exfalso
              by_cases e2 : j < i
              · have := mo_lt rows hg.1 i j e2 hlt; omega
              · have := mo_lt rows hg.1 j i (by omega) h1; omega
          · intro h; exact ⟨i, hlt, h, rfl⟩
        rw [e]
        simp only [bne_self_eq_false, Bool.false_eq_true, if_false, stepI i (by omega)]
        exact ih (i + 1) (by omega) (by omega)
    exact main rows.length 0 (by omega) (by omega)
  · simp only [if_neg hg]
    refine Ev.succ ?_
    simp only [laws_FnProfits.l0, ite_self]
    exact lossPart hl _ _ _ _ _
theorem FnProfits : laws_FnProfits.Pure := by
  intro l ⟨_, hb⟩
  refine Ev.rounds ?_
  unfold laws_FnProfits.f laws_rBig.f
  simp only [Option.bind_some]
  by_cases hbig : (l.length : Int) > 65536
  · simp only [decide_eq_true hbig, if_true]
    exact Ev.now _
  · have hl : CodeL l := code_of hb (by omega)
    simp only [decide_eq_false hbig, Bool.false_eq_true, if_false]
    obtain ⟨r, hr, hlen⟩ := drawRows hl
    have hz := bestRes_len r (by omega)
    simp only [spec_DrawBestMonths.f]
    refine Ev.bind (Ev.bind hr (Ev.now _)) ?_
    refine Ev.bind (iBest r (by omega)) ?_
    refine Ev.bind (sBest r (by omega)) ?_
    simp only [bne_self_eq_false, Bool.false_eq_true, if_false, if_true]
    refine Ev.bind (sameE _ hz) ?_
    refine Ev.succ ?_
    simp only [laws_FnProfits.j0, Bool.not_true, Bool.false_eq_true, if_false]
    exact bestPart hl r hlen
end Go.Proofs.Ythmgiagecgkmiaa.Pure
