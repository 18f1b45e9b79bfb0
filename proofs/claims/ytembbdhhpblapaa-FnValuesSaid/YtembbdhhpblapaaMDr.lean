import Derived.Test.YtembbdhhpblapaaPl
import Derived.Laws.BitsLemmas
import Derived.Test.YtembbdhhpblapaaQx71
import Derived.Test.YtembbdhhpblapaaQx72
import Derived.Test.YtembbdhhpblapaaQx82
import Derived.Test.YtembbdhhpblapaaQx94
/-! What is drawn: each draw answers, within its bounds. -/
namespace Go.Proofs.Ytembbdhhpblapaa.M
open Go Go.RowKit Go.Proofs.Ytembbdhhpblapaa.Q Go.Proofs.YtembbdhhpblapaaW.PrintWords Go.Proofs.YtembbdhhpblapaaW.PrintLast Go.Proofs.YtembbdhhpblapaaW.Pl Classical
set_option linter.unusedSimpArgs false
set_option linter.unusedVariables false

theorem u64w (n : Int) : IntKind.u64.wrap n = n % 18446744073709551616 := by simp [IntKind.wrap, IntKind.bits, IntKind.signed]
theorem p24 : (2 : Int) ^ 24 = 16777216 := by decide
theorem and255 (x : Int) (h0 : 0 ≤ x) (h1 : x < 16777216) : Go.bits .and .u64 x 255 = x % 256 :=
  bits_mask .u64 24 (by decide) (fun n a b => by
    rw [p24] at b
    rw [u64w]
    omega) 8 (by decide) x h0 (by
    rw [p24]
    exact h1)
/-- The bytes that are read. -/
def CodeL (l : List Int) : Prop := l.length ≤ 65536 ∧ ∀ x ∈ l, 0 ≤ x ∧ x ≤ 255
theorem code_of {l : List Int} (h : ∀ x ∈ l, (Lit.int .u8 x).wf = true) (hl : l.length ≤ 65536) : CodeL l := by
  refine ⟨hl, fun x hx => ?_⟩
  have := h x hx
  simp [Lit.wf, IntKind.wrap, IntKind.bits, IntKind.signed, IntKind.min, IntKind.max] at this
  omega
theorem rand_b (v : Int) : 0 ≤ wrap64 (Go.bits .and .u64 (IntKind.u64.wrap v / 1099511627776) 255) ∧ wrap64 (Go.bits .and .u64 (IntKind.u64.wrap v / 1099511627776) 255) ≤ 255 := by
  rw [u64w]
  have h : 0 ≤ v % 18446744073709551616 / 1099511627776 ∧ v % 18446744073709551616 / 1099511627776 < 16777216 := by omega
  generalize v % 18446744073709551616 / 1099511627776 = y at h
  rw [and255 y h.1 h.2, w64 (by omega)]
  omega
theorem next_ok {l : List Int} (hl : CodeL l) (a s : Int) (ha : 0 ≤ a ∧ a ≤ 4611686018427387904) : ∃ b t, spec_l1Cur_next.f l a s = some (b, a + 1, t) ∧ 0 ≤ b ∧ b ≤ 255 := by
  unfold spec_l1Cur_next.f
  have hlen := hl.1
  rw [w64 (x := a + 1) (by omega)]
  by_cases h : a < (l.length : Int)
  · obtain ⟨i, rfl⟩ : ∃ i : Nat, a = (i : Int) := ⟨a.toNat, by omega⟩
    have hi : i < l.length := by omega
    have hr : 0 ≤ rd l (i : Int) ∧ rd l (i : Int) ≤ 255 := by
      have : rd l (i : Int) = l[i] := by unfold rd; simp [hi]
      rw [this]
      exact hl.2 _ (List.getElem_mem hi)
    simp only [if_pos h, if_pos ha.1, if_pos (show (i : Int) + 1 ≤ (l.length : Int) by omega)]
    exact ⟨_, _, rfl, by rw [w64 (by omega)]; exact hr⟩
  · simp only [if_neg h, if_neg (show ¬ (a + 1 ≤ (l.length : Int)) by omega)]
    exact ⟨_, _, rfl, rand_b _⟩
theorem pick_ok {l : List Int} (hl : CodeL l) (a s m : Int) (n : Nat) (ha : 0 ≤ a ∧ a ≤ (n : Int)) (hn : n ≤ 1099511627776) (hm : m ≤ 1099511627776) :
    ∃ x a' t, spec_l1Cur_pick.f l a s m = some (x, a', t) ∧ (0 ≤ a' ∧ a' ≤ ((n + 2 : Nat) : Int)) ∧ 0 ≤ x ∧ (1 ≤ m → x < m) ∧ (m ≤ 1 → x = 0) := by
  unfold spec_l1Cur_pick.f
  by_cases h : m ≤ 1
  · exact ⟨0, a, s, by rw [if_pos h], by omega, by omega, by omega, fun _ => rfl⟩
  · rw [if_neg h]
    obtain ⟨b, t, h1, hb⟩ := next_ok hl a s (by omega)
    rw [h1]
    simp only [Option.bind_some, if_neg (show ¬ (m = 0) by omega)]
    by_cases h2 : m > 200
    · obtain ⟨b2, t2, h3, hb2⟩ := next_ok hl (a + 1) t (by omega)
      simp only [if_pos h2, h3, Option.bind_some]
      rw [w64 (x := b * 256) (by omega), w64 (x := b * 256 + b2) (by omega), Int.tmod_eq_emod_of_nonneg (by omega)]
      exact ⟨_, _, _, rfl, by omega, Int.emod_nonneg _ (by omega), fun _ => Int.emod_lt_of_pos _ (by omega), fun h4 => absurd h4 h⟩
    · simp only [if_neg h2]
      rw [Int.tmod_eq_emod_of_nonneg (by omega)]
      exact ⟨_, _, _, rfl, by omega, Int.emod_nonneg _ (by omega), fun _ => Int.emod_lt_of_pos _ (by omega), fun h4 => absurd h4 h⟩
theorem among_ok {l : List Int} (hl : CodeL l) (a s : Int) (L : List Int) (n : Nat) (ha : 0 ≤ a ∧ a ≤ (n : Int)) (hn : n ≤ 1099511627776) (hL : 1 ≤ L.length ∧ L.length ≤ 1099511627776) :
    ∃ x a' t, spec_l1Cur_among.f l a s L = some (x, a', t) ∧ (0 ≤ a' ∧ a' ≤ ((n + 2 : Nat) : Int)) ∧ x ∈ L := by
  obtain ⟨x, a', t, h1, h2, h3, h4, _⟩ := pick_ok hl a s (L.length : Int) n ha hn (by omega)
  have h5 := h4 (by omega)
  unfold spec_l1Cur_among.f
  rw [h1]
  simp only [Option.bind_some, if_pos h3, if_pos h5]
  refine ⟨_, _, _, rfl, h2, ?_⟩
  have hx : x.toNat < L.length := by omega
  have : rd L x = L[x.toNat] := by unfold rd; simp [hx]
  rw [this]
  exact List.getElem_mem hx
theorem one_ok {l : List Int} (hl : CodeL l) (a s m : Int) (n : Nat) (ha : 0 ≤ a ∧ a ≤ (n : Int)) (hn : n ≤ 1099511627776) (hm : m ≤ 1099511627776) :
    ∃ b a' t, spec_l1Cur_one.f l a s m = some (b, a', t) ∧ (0 ≤ a' ∧ a' ≤ ((n + 2 : Nat) : Int)) := by
  obtain ⟨x, a', t, h1, h2, _⟩ := pick_ok hl a s m n ha hn hm
  unfold spec_l1Cur_one.f
  rw [h1]
  exact ⟨_, _, _, rfl, h2⟩
end Go.Proofs.Ytembbdhhpblapaa.M
