import Derived.Test.YtcgpibbbkdhpeaaMB
import Derived.Test.YtcgpibbbkdhpeaaQx32
import Derived.Test.YtcgpibbbkdhpeaaQx33
import Derived.Test.YtcgpibbbkdhpeaaQx66
import Derived.Test.YtcgpibbbkdhpeaaQx8888801
namespace Go.Proofs.Ytcgpibbbkdhpeaa.M
open Go.RowKit Go.Proofs.Ytcgpibbbkdhpeaa.Q Go.Proofs.YtcgpibbbkdhpeaaW.PrintWords Go.Proofs.YtcgpibbbkdhpeaaW.PrintLast Go.Proofs.YtcgpibbbkdhpeaaW.Pl Classical
set_option linter.unusedSimpArgs false
set_option linter.unusedVariables false

/-- r is the greatest number of a list, from some place on not below m. -/
def IsMax (l : List Int) (r : Int) : Prop := (∀ j, j < l.length → nth l j 0 ≤ r) ∧ ∃ j, j < l.length ∧ nth l j 0 = r
theorem isMax_one {l : List Int} {r q : Int} (h : IsMax l r) (h2 : IsMax l q) : r = q := by
  obtain ⟨h1, j, hj, e⟩ := h
  obtain ⟨g1, i, hi, f⟩ := h2
  have := h1 i hi
  have := g1 j hj
  omega
theorem mx_le (a b : Int) : a ≤ mx a b ∧ b ≤ mx a b ∧ (mx a b = a ∨ mx a b = b) := by unfold mx; split <;> omega
theorem maxLoop (l : List Int) (hl : l.length ≤ 1048576) (h0 : 1 ≤ l.length) : ∃ r, IsMax l r ∧ Ev (fun k => slices_Max_int_int.f k l) r := by
  unfold slices_Max_int_int.f
  simp only [if_neg (show ¬ ((l.length : Int) < 1) by omega), if_pos (show 0 < (l.length : Int) by omega)]
  have main : ∀ d (i : Nat) (s : Int), l.length - i = d → 1 ≤ i → i ≤ l.length → (∀ j, j < i → nth l j 0 ≤ s) → (∃ j, j < i ∧ nth l j 0 = s) → ∃ r, IsMax l r ∧ Ev (fun k => slices_Max_int_int.l0 k l s (i : Int)) r := by
    intro d
    induction d with
    | zero =>
      intro i s hd h1 hi ha hb
      have hil : i = l.length := by omega
      subst hil
      refine ⟨s, ⟨ha, hb⟩, Ev.succ ?_⟩
      simp only [slices_Max_int_int.l0, if_neg (show ¬ ((l.length : Int) < (l.length : Int)) by omega)]
      exact Ev.now _
    | succ d ih =>
      intro i s hd h1 hi ha hb
      obtain ⟨m1, m2, m3⟩ := mx_le s (nth l i 0)
      obtain ⟨r, hr, g⟩ := ih (i + 1) (mx s (nth l i 0)) (by omega) (by omega) (by omega) (fun j hj => by
        by_cases e : j = i
        · subst e; exact m2
        · have := ha j (by omega); omega) (by
        obtain ⟨j, hj, e⟩ := hb
        rcases m3 with e3 | e3
        · exact ⟨j, by omega, by omega⟩
        · exact ⟨i, by omega, by omega⟩)
      refine ⟨r, hr, Ev.succ ?_⟩
      simp only [slices_Max_int_int.l0, rdI, if_pos (show (i : Int) < (l.length : Int) by omega), if_pos (show (0 : Int) ≤ (i : Int) by omega), stepI i (by omega)]
      exact g
  have h := main (l.length - 1) 1 (nth l 0 0) rfl (by omega) (by omega) (fun j hj => by
    have : j = 0 := by omega
    subst this; omega) ⟨0, by omega, rfl⟩
  have e : rd l 0 = nth l 0 0 := rdI l 0
  rw [e]
  exact h
theorem nth_set {l : List Int} {i j : Nat} {v : Int} (hj : j < l.length) : nth (l.set i v) j 0 = if i = j then v else nth l j 0 := by
  rw [nth_get (by simpa using hj), nth_get hj, List.getElem_set]
/-- The greatest of the ends so far is the greatest day on which a loom is free. -/
theorem endsMax (l : List S51) (m p : List Int) (h : asked l m p = true) : IsMax (endsOf l m p).2 ((endsOf l m p).1.foldl mx 0) := by
  obtain ⟨hl, hm, hp, hj, hq⟩ := asked_at h
  unfold endsOf
  have key : ∀ n, n ≤ p.length → (IsMax ((List.range n).foldl (fun s i => stepE l p i s) ([], List.replicate m.length 0)).2 (((List.range n).foldl (fun s i => stepE l p i s) ([], List.replicate m.length 0)).1.foldl mx 0)) ∧ ((List.range n).foldl (fun s i => stepE l p i s) ([], List.replicate m.length 0)).2.length = m.length ∧ (∀ j, j < m.length → 0 ≤ nth ((List.range n).foldl (fun s i => stepE l p i s) ([], List.replicate m.length 0)).2 j 0 ∧ nth ((List.range n).foldl (fun s i => stepE l p i s) ([], List.replicate m.length 0)).2 j 0 ≤ 4000 + 400 * (n : Int)) := by
    intro n
    induction n with
    | zero =>
      intro _
      have hz : ∀ j, j < m.length → nth (List.replicate m.length (0 : Int)) j 0 = 0 := fun j hj => by rw [nth_get (by simpa using hj)]; simp
      refine ⟨⟨fun j hj => ?_, 0, by simp; omega, ?_⟩, by simp, fun j hj => ?_⟩
      · simp only [List.range_zero, List.foldl_nil] at hj ⊢
        rw [hz j (by simpa using hj)]; omega
      · simp only [List.range_zero, List.foldl_nil]
        exact hz 0 (by omega)
      · simp only [List.range_zero, List.foldl_nil]
        rw [hz j hj]; omega
    | succ n ih =>
      intro hn
      obtain ⟨⟨ih1, j0, hj0, ihe⟩, ih2, ih3⟩ := ih (by omega)
      rw [List.range_succ, List.foldl_append, List.foldl_cons, List.foldl_nil]
      generalize (List.range n).foldl (fun s i => stepE l p i s) ([], List.replicate m.length 0) = s at ih1 ih2 ih3 hj0 ihe ⊢
      have hpn := hq n (by omega)
      have hok := hj n (by omega)
      unfold okJ okF at hok
      have hok := of_decide_eq_true hok
      have hrd : rd s.2 (nth p n 0) = nth s.2 (nth p n 0).toNat 0 := by
        have := rdI s.2 (nth p n 0).toNat
        rwa [Int.toNat_of_nonneg hpn.1] at this
      have hlt : (nth p n 0).toNat < m.length := by omega
      have hb := ih3 (nth p n 0).toNat hlt
      obtain ⟨m1, m2, m3⟩ := mx_le (nth s.2 (nth p n 0).toNat 0) (nth l n z51).f3
      unfold stepE
      simp only [hrd]
      generalize hM : mx (nth s.2 (nth p n 0).toNat 0) (nth l n z51).f3 = M at m1 m2 m3 ⊢
      have hMb : 0 ≤ M ∧ M ≤ 4000 + 400 * (n : Int) := by omega
      rw [w64 (x := M + (nth l n z51).f2) (by omega)]
      have hE : nth s.2 (nth p n 0).toNat 0 < M + (nth l n z51).f2 := by omega
      have hE2 : 0 ≤ M + (nth l n z51).f2 ∧ M + (nth l n z51).f2 ≤ 4000 + 400 * ((n + 1 : Nat) : Int) := by omega
      generalize M + (nth l n z51).f2 = E at hE hE2 ⊢
      rw [List.foldl_append, List.foldl_cons, List.foldl_nil]
      generalize s.1.foldl mx 0 = G at ih1 ihe ⊢
      obtain ⟨g1, g2, g3⟩ := mx_le G E
      refine ⟨⟨fun j hj => ?_, ?_⟩, by simp [ih2], fun j hj => ?_⟩
      · simp only [List.length_set] at hj
        rw [nth_set hj]
        split
        · omega
        · have := ih1 j hj; omega
      · rcases g3 with e3 | e3
        · refine ⟨j0, by simpa using hj0, ?_⟩
          rw [nth_set hj0]
          split
          · rename_i e; rw [e] at hE; omega
          · omega
        · refine ⟨(nth p n 0).toNat, by simp [ih2]; exact hlt, ?_⟩
          rw [nth_set (by omega), if_pos rfl]; omega
      · rw [nth_set (by omega)]
        have := ih3 j hj
        split <;> omega
  exact (key p.length (by omega)).1
theorem lastBoth (l : List S51) (m p : List Int) (hl : l.length ≤ 1048576) (hm : m.length ≤ 1048576) : ∃ q : Int × Bool, Ev (fun k => spec_LastEnd.f k l m p) q ∧ Ev (fun k => impl_LastEnd.f k l m p) q := by
  unfold spec_LastEnd.f impl_LastEnd.f
  by_cases h : asked l m p = true
  · obtain ⟨h1, h2, h3⟩ := sEnds l m p h
    obtain ⟨b1, b2, b3, _, _⟩ := asked_at h
    obtain ⟨r, hr, hE⟩ := maxLoop (endsOf l m p).2 (by omega) (by omega)
    have he := isMax_one hr (endsMax l m p h)
    refine ⟨(r, true), Ev.bind (sAsked l m p hl hm) ?_, Ev.bind (iAsked l m p hl hm) ?_⟩
    · simp only [h, if_true]
      refine Ev.bind (a := r) ?_ (Ev.now _)
      unfold spec_l16Last.f
      refine Ev.bind h1 ?_
      rw [he]
      generalize hO : (endsOf l m p).1 = O at h2 ⊢
      have main : ∀ d (i : Nat) (s : Int), O.length - i = d → i ≤ O.length → Ev (fun k => spec_l16Last.l0 k O s (i : Int)) ((O.drop i).foldl mx s) := by
        intro d
        induction d with
        | zero =>
          intro i s hd hi
          have hil : i = O.length := by omega
          subst hil
          refine Ev.succ ?_
          simp only [spec_l16Last.l0, if_neg (show ¬ ((O.length : Int) < (O.length : Int)) by omega), List.drop_length, List.foldl_nil]
          exact Ev.now _
        | succ d ih =>
          intro i s hd hi
          refine Ev.succ ?_
          have := ih (i + 1) (mx s (nth O i 0)) (by omega) (by omega)
          rw [List.drop_eq_getElem_cons (show i < O.length by omega), List.foldl_cons, ← nth_get (z := 0) (show i < O.length by omega)]
          simp only [spec_l16Last.l0, rdI, most, Option.bind_some, if_pos (show (i : Int) < (O.length : Int) by omega), if_pos (show (0 : Int) ≤ (i : Int) by omega), stepI i (by omega)]
          exact this
      exact main O.length 0 0 (by omega) (by omega)
    · simp only [h, if_true]
      refine Ev.bind (iEnds l m p h) ?_
      exact Ev.bind hE (Ev.now _)
  · refine ⟨(0, false), Ev.bind (sAsked l m p hl hm) ?_, Ev.bind (iAsked l m p hl hm) ?_⟩ <;>
    · simp only [h, Bool.false_eq_true, if_false]
      exact Ev.now _
end Go.Proofs.Ytcgpibbbkdhpeaa.M
