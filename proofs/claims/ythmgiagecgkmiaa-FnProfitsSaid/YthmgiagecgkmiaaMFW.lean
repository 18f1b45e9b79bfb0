import Derived.Test.YthmgiagecgkmiaaMDr
import Derived.Test.YthmgiagecgkmiaaQx49
import Derived.Test.YthmgiagecgkmiaaQx56
import Derived.Test.YthmgiagecgkmiaaQx60
/-! The rows that are drawn: some list of at most 13 rows. -/
namespace Go.Proofs.Ythmgiagecgkmiaa.M
open Go Go.RowKit Go.Proofs.Ythmgiagecgkmiaa.Q Go.Proofs.YthmgiagecgkmiaaW.PrintWords Go.Proofs.YthmgiagecgkmiaaW.PrintLast Go.Proofs.YthmgiagecgkmiaaW.Pl Classical
set_option linter.unusedSimpArgs false
set_option linter.unusedVariables false

theorem rowJ {l : List Int} (hl : CodeL l) (a s : Int) (n : Nat) (ha : 0 ≤ a ∧ a ≤ (n : Int)) (hn : n ≤ 1000000) (x0 x1 x2 x3 x4 x5 : Int) :
    ∃ q0 q1 q2 q3 q4 q5 a' t, Ev (fun k => spec_l1Cur_monthRow.j0 k l a s x0 x1 x2 x3 x4 x5) (q0, q1, q2, q3, q4, q5, a', t) ∧ (0 ≤ a' ∧ a' ≤ ((n + 4 : Nat) : Int)) := by
  obtain ⟨p, a1, s1, h1, ha1, _⟩ := pick_ok hl a s 80 n ha (by omega) (by omega)
  by_cases c0 : p = 0
  · obtain ⟨y, a2, s2, h2, ha2, _⟩ := among_ok hl a1 s1 [0, 1200, 1201] (n + 2) ha1 (by omega) (by simp)
    refine ⟨y, x1, x2, x3, x4, x5, a2, s2, Ev.succ ?_, ha2⟩
    simp only [spec_l1Cur_monthRow.j0, h1, Option.bind_some, if_pos c0, h2]
    exact Ev.now _
  by_cases c1 : p = 1
  · obtain ⟨y, a2, s2, h2, ha2, _⟩ := among_ok hl a1 s1 [(-1), 100] (n + 2) ha1 (by omega) (by simp)
    refine ⟨x0, y, x2, x3, x4, x5, a2, s2, Ev.succ ?_, ha2⟩
    simp only [spec_l1Cur_monthRow.j0, h1, Option.bind_some, if_neg c0, if_pos c1, h2]
    exact Ev.now _
  by_cases c2 : p = 2
  · obtain ⟨y, a2, s2, h2, ha2, _⟩ := among_ok hl a1 s1 [(-1), 5, 9000001] (n + 2) ha1 (by omega) (by simp)
    refine ⟨x0, x1, y, x3, x4, x5, a2, s2, Ev.succ ?_, ha2⟩
    simp only [spec_l1Cur_monthRow.j0, h1, Option.bind_some, if_neg c0, if_neg c1, if_pos c2, h2]
    exact Ev.now _
  by_cases c3 : p = 3
  · obtain ⟨y, a2, s2, h2, ha2, _⟩ := among_ok hl a1 s1 [(-1), 0, 10000] (n + 2) ha1 (by omega) (by simp)
    refine ⟨x0, x1, x2, y, x4, x5, a2, s2, Ev.succ ?_, ha2⟩
    simp only [spec_l1Cur_monthRow.j0, h1, Option.bind_some, if_neg c0, if_neg c1, if_neg c2, if_pos c3, h2]
    exact Ev.now _
  by_cases c4 : p = 4
  · obtain ⟨y, a2, s2, h2, ha2, _⟩ := among_ok hl a1 s1 [(-1), 100000001] (n + 2) ha1 (by omega) (by simp)
    refine ⟨x0, x1, x2, x3, y, x5, a2, s2, Ev.succ ?_, ha2⟩
    simp only [spec_l1Cur_monthRow.j0, h1, Option.bind_some, if_neg c0, if_neg c1, if_neg c2, if_neg c3, if_pos c4, h2]
    exact Ev.now _
  by_cases c5 : p = 5
  · obtain ⟨y, a2, s2, h2, ha2, _⟩ := among_ok hl a1 s1 [(-1), 100000001] (n + 2) ha1 (by omega) (by simp)
    refine ⟨x0, x1, x2, x3, x4, y, a2, s2, Ev.succ ?_, ha2⟩
    simp only [spec_l1Cur_monthRow.j0, h1, Option.bind_some, if_neg c0, if_neg c1, if_neg c2, if_neg c3, if_neg c4, if_pos c5, h2]
    exact Ev.now _
  · refine ⟨x0, x1, x2, x3, x4, x5, a1, s1, Ev.succ ?_, by omega⟩
    simp only [spec_l1Cur_monthRow.j0, h1, Option.bind_some, if_neg c0, if_neg c1, if_neg c2, if_neg c3, if_neg c4, if_neg c5]
    exact Ev.now _
theorem row1 {l : List Int} (hl : CodeL l) (a s m : Int) (n : Nat) (ha : 0 ≤ a ∧ a ≤ (n : Int)) (hn : n ≤ 900000) :
    ∃ q0 q1 q2 q3 q4 q5 a' t, Ev (fun k => spec_l1Cur_monthRow.f k l a s m) (q0, q1, q2, q3, q4, q5, a', t) ∧ (0 ≤ a' ∧ a' ≤ ((n + 14 : Nat) : Int)) := by
  obtain ⟨y1, a1, s1, h1, ha1, _⟩ := among_ok hl a s [0, 1, 1, 3, 99] n ha (by omega) (by simp)
  obtain ⟨y2, a2, s2, h2, ha2, _⟩ := among_ok hl a1 s1 [0, 1, 300, 9999] (n + 2) ha1 (by omega) (by simp)
  obtain ⟨y3, a3, s3, h3, ha3, _⟩ := among_ok hl a2 s2 [0, 500, 40000, 40000, 100000000] (n + 2 + 2) ha2 (by omega) (by simp)
  obtain ⟨y4, a4, s4, h4, ha4, _⟩ := among_ok hl a3 s3 [0, 505, 40000, 60000, 100000000] (n + 2 + 2 + 2) ha3 (by omega) (by simp)
  unfold spec_l1Cur_monthRow.f
  simp only [h1, h2, h3, h4, Option.bind_some]
  by_cases c : y2 > 0
  · obtain ⟨y5, a5, s5, h5, ha5, _⟩ := among_ok hl a4 s4 [0, 7, 450000, 9000000] (n + 2 + 2 + 2 + 2) ha4 (by omega) (by simp)
    simp only [if_pos c, h5, Option.bind_some]
    obtain ⟨q0, q1, q2, q3, q4, q5, a6, s6, h6, ha6⟩ := rowJ hl a5 s5 (n + 2 + 2 + 2 + 2 + 2) ha5 (by omega) m y1 y5 y2 y3 y4
    exact ⟨q0, q1, q2, q3, q4, q5, a6, s6, h6, by omega⟩
  · simp only [if_neg c]
    obtain ⟨q0, q1, q2, q3, q4, q5, a6, s6, h6, ha6⟩ := rowJ hl a4 s4 (n + 2 + 2 + 2 + 2) ha4 (by omega) m y1 0 y2 y3 y4
    exact ⟨q0, q1, q2, q3, q4, q5, a6, s6, h6, by omega⟩
theorem drawL1 {l : List Int} (hl : CodeL l) : ∀ d (i : Nat) (rows : List S25) (a s : Int) (n : Nat), 13 - i = d → i ≤ 13 → rows.length = i → (0 ≤ a ∧ a ≤ (n : Int)) → n + 2 * d ≤ 1000000 →
    ∃ r a' t, Ev (fun k => spec_l1Cur_monthRows.l1 k rows (i : Int) l a s) (r, a', t) ∧ r.length ≤ 13 := by
  intro d
  induction d with
  | zero =>
    intro i rows a s n hd hi hr ha hn
    obtain ⟨b, a1, s1, h1, ha1, hb0, hb1, _⟩ := pick_ok hl a s 2 n ha (by omega) (by omega)
    have hb := hb1 (by omega)
    refine ⟨rows, a1, s1, Ev.succ ?_, by omega⟩
    simp only [spec_l1Cur_monthRows.l1, h1, Option.bind_some, w64 (x := 12 + b) (by omega), if_neg (show ¬ ((i : Int) < 12 + b) by omega)]
    exact Ev.now _
  | succ d ih =>
    intro i rows a s n hd hi hr ha hn
    obtain ⟨b, a1, s1, h1, ha1, hb0, hb1, _⟩ := pick_ok hl a s 2 n ha (by omega) (by omega)
    have hb := hb1 (by omega)
    by_cases hc : (i : Int) < 12 + b
    · obtain ⟨r, a2, s2, h2, hl2⟩ := ih (i + 1) (rows ++ [(⟨((i + 1 : Nat) : Int), 0, 0, 0, 0, 5⟩ : S25)]) a1 s1 (n + 2) (by omega) (by omega) (by simp [hr]) ha1 (by omega)
      refine ⟨r, a2, s2, Ev.succ ?_, hl2⟩
      simp only [spec_l1Cur_monthRows.l1, h1, Option.bind_some, w64 (x := 12 + b) (by omega), if_pos hc, if_pos (show rows.length < 2932031007402 by omega), stepI i (by omega)]
      exact h2
    · refine ⟨rows, a1, s1, Ev.succ ?_, by omega⟩
      simp only [spec_l1Cur_monthRows.l1, h1, Option.bind_some, w64 (x := 12 + b) (by omega), if_neg hc]
      exact Ev.now _
theorem drawL0 {l : List Int} (hl : CodeL l) : ∀ (d : Nat) (rows : List S25) (m a s : Int) (n : Nat), rows.length + d ≤ 7 → (0 ≤ a ∧ a ≤ (n : Int)) → n + 18 * d ≤ 800000 →
    ∃ r a' t, Ev (fun k => spec_l1Cur_monthRows.l0 k rows m (d : Int) l a s) (r, a', t) ∧ r.length ≤ 13 := by
  intro d
  induction d with
  | zero =>
    intro rows m a s n hr ha hn
    obtain ⟨b, a1, s1, h1, ha1⟩ := one_ok hl a s 24 n ha (by omega) (by omega)
    cases b with
    | true =>
      obtain ⟨r, a2, s2, h2, hl2⟩ := drawL1 hl 13 0 [] a1 s1 (n + 2) (by omega) (by omega) rfl ha1 (by omega)
      refine ⟨r, a2, s2, Ev.succ ?_, hl2⟩
      simp only [spec_l1Cur_monthRows.l0, if_neg (show ¬ (((0 : Nat) : Int) > 0) by omega), h1, Option.bind_some, if_true]
      exact h2
    | false =>
      refine ⟨rows, a1, s1, Ev.succ ?_, by omega⟩
      simp only [spec_l1Cur_monthRows.l0, if_neg (show ¬ (((0 : Nat) : Int) > 0) by omega), h1, Option.bind_some, Bool.false_eq_true, if_false]
      exact Ev.now _
  | succ d ih =>
    intro rows m a s n hr ha hn
    obtain ⟨q0, q1, q2, q3, q4, q5, a1, s1, h1, ha1⟩ := row1 hl a s m n ha (by omega)
    obtain ⟨y, a2, s2, h2, ha2, _⟩ := among_ok hl a1 s1 [1, 1, 1, 2] (n + 14) ha1 (by omega) (by simp)
    obtain ⟨p, a3, s3, h3, ha3, _⟩ := pick_ok hl a2 s2 90 (n + 14 + 2) ha2 (by omega) (by omega)
    obtain ⟨r, a4, s4, h4, hl4⟩ := ih (rows ++ [(⟨q0, q1, q2, q3, q4, q5⟩ : S25)]) (wrap64 ((wrap64 (m + y)) - (wrap64 (Int.tdiv p 89)))) a3 s3 (n + 14 + 2 + 2) (by simp; omega) ha3 (by omega)
    refine ⟨r, a4, s4, Ev.succ ?_, hl4⟩
    simp only [spec_l1Cur_monthRows.l0, if_pos (show ((d + 1 : Nat) : Int) > 0 by omega)]
    refine Ev.bind h1 ?_
    simp only [if_pos (show rows.length < 2932031007402 by omega), h2, h3, Option.bind_some, predI (d + 1) (by omega), Nat.add_sub_cancel]
    exact h4
theorem drawRows {l : List Int} (hl : CodeL l) : ∃ r : List S25, Ev (fun k => spec_DrawAreMonthRows.f k l) r ∧ r.length ≤ 13 := by
  obtain ⟨m, a1, s1, h1, ha1, _⟩ := among_ok hl 0 0 [1, 40, 1185] 0 (by omega) (by omega) (by simp)
  obtain ⟨d, a2, s2, h2, ha2, hd0, hd1, _⟩ := pick_ok hl a1 s1 8 2 ha1 (by omega) (by omega)
  have hd := hd1 (by omega)
  obtain ⟨d', rfl⟩ : ∃ i : Nat, d = (i : Int) := ⟨d.toNat, by omega⟩
  obtain ⟨r, a3, s3, h3, hl3⟩ := drawL0 hl d' [] m a2 s2 4 (by simp; omega) ha2 (by omega)
  refine ⟨r, ?_, hl3⟩
  unfold spec_DrawAreMonthRows.f spec_l1Cur_monthRows.f
  simp only [h1, h2, Option.bind_some]
  exact Ev.bind h3 (Ev.now _)
end Go.Proofs.Ythmgiagecgkmiaa.M
