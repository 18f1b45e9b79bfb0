import Derived.Test.YtacimfnaacdobaaDoorMTP
import Derived.Test.YtacimfnaacdobaaDoorMA
import Derived.Lib.Join
/-! A program's text in plain words. -/
namespace Go.Proofs.YtacimfnaacdobaaDoor.M
open Go Go.RowKit Go.Proofs.YtacimfnaacdobaaDoor.Q Go.Proofs.YtacimfnaacdobaaDoorW.PrintWords Go.Proofs.YtacimfnaacdobaaDoorW.PrintLast Go.Proofs.YtacimfnaacdobaaDoorW.Pl
set_option linter.unusedSimpArgs false
set_option linter.unusedVariables false
abbrev letters : ByteArray := ⟨#[112, 116, 109, 98, 117, 114, 99, 115, 120]⟩
/-- The letter of a kind. -/
def letT (k : Int) : ByteArray := letters.extract (k - 1).toNat k.toNat
def numsOf (x : S37) : List Int := if x.f0 = 1 then [x.f1, x.f2, x.f3] else if x.f0 = 6 then [x.f1] else if x.f0 = 9 then [x.f1, x.f2] else []
def joinB (bs : List ByteArray) (sep : ByteArray) : ByteArray := ⟨(Lib.join (bs.map (·.data.toList)) sep.data.toList).toArray⟩
def wordT (x : S37) : ByteArray := letT x.f0 ++ joinB ((numsOf x).map dec) ⟨#[46]⟩
/-- The text of the first designs. -/
def desT (xs : List S37) : Nat → ByteArray
  | 0 => ⟨#[]⟩
  | i + 1 => (if i > 0 then desT xs i ++ ⟨#[32]⟩ else desT xs i) ++ wordT (nth xs i z37)
theorem bmk (b : ByteArray) : b = ⟨b.data.toList.toArray⟩ := by cases b; simp
theorem app_mk (a b : List UInt8) : (⟨a.toArray⟩ : ByteArray) ++ (⟨b.toArray⟩ : ByteArray) = ⟨(a ++ b).toArray⟩ := by rw [ByteArray.mk_append_mk]
theorem app_b (a b : ByteArray) : a ++ b = ⟨(a.data.toList ++ b.data.toList).toArray⟩ := by
  conv => lhs; rw [bmk a, bmk b]
  rw [ByteArray.mk_append_mk]
theorem joinB_nil (sep : ByteArray) : joinB [] sep = ⟨#[]⟩ := rfl
theorem joinB_one (b sep : ByteArray) : joinB [b] sep = b := by
  unfold joinB
  rw [List.map_cons, List.map_nil, Lib.join_one]
theorem joinB_snoc (ws : List ByteArray) (w sep : ByteArray) (h : ws ≠ []) : joinB (ws ++ [w]) sep = (joinB ws sep ++ sep) ++ w := by
  cases ws with
  | nil => exact absurd rfl h
  | cons a r =>
    unfold joinB
    rw [List.cons_append, List.map_cons, List.map_cons, Lib.join_cons, Lib.join_cons, List.map_append, app_b, app_b]
    congr 1
    simp [Lib.joinTail]
theorem joinB_size (bs : List ByteArray) (sep : ByteArray) : (joinB bs sep).size = (Lib.join (bs.map (·.data.toList)) sep.data.toList).length := by
  unfold joinB
  show (Lib.join _ _).toArray.size = _
  simp
theorem let_size (k : Int) (h : 1 ≤ k ∧ k ≤ 9) : (letT k).size ≤ 1 := by
  obtain ⟨h1, h2⟩ := h
  unfold letT
  rw [ByteArray.size_extract]
  omega
theorem let_v : letT 1 = ⟨#[112]⟩ ∧ letT 2 = ⟨#[116]⟩ ∧ letT 3 = ⟨#[109]⟩ ∧ letT 4 = ⟨#[98]⟩ ∧ letT 5 = ⟨#[117]⟩ ∧ letT 6 = ⟨#[114]⟩ ∧ letT 7 = ⟨#[99]⟩ ∧ letT 8 = ⟨#[115]⟩ ∧ letT 9 = ⟨#[120]⟩ := by unfold letT letters; decide +kernel
theorem let_at (k : Int) (h : 1 ≤ k ∧ k ≤ 9) : ([Value.string ⟨#[]⟩, .string ⟨#[112]⟩, .string ⟨#[116]⟩, .string ⟨#[109]⟩, .string ⟨#[98]⟩, .string ⟨#[117]⟩, .string ⟨#[114]⟩, .string ⟨#[99]⟩, .string ⟨#[115]⟩, .string ⟨#[120]⟩] : List Value)[k.toNat * 1]? = some (.string (letT k)) := by
  obtain ⟨e1, e2, e3, e4, e5, e6, e7, e8, e9⟩ := let_v
  obtain rfl | rfl | rfl | rfl | rfl | rfl | rfl | rfl | rfl : k = 1 ∨ k = 2 ∨ k = 3 ∨ k = 4 ∨ k = 5 ∨ k = 6 ∨ k = 7 ∨ k = 8 ∨ k = 9 := by omega
  · rw [e1]; rfl
  · rw [e2]; rfl
  · rw [e3]; rfl
  · rw [e4]; rfl
  · rw [e5]; rfl
  · rw [e6]; rfl
  · rw [e7]; rfl
  · rw [e8]; rfl
  · rw [e9]; rfl
/-- What a good design's fields are. -/
theorem okR_at {x : S37} (h : okR x = true) : (1 ≤ x.f0 ∧ x.f0 ≤ 9) ∧ (x.f0 = 1 → (1 ≤ x.f1 ∧ x.f1 ≤ 8) ∧ (1 ≤ x.f2 ∧ x.f2 ≤ 8) ∧ (0 ≤ x.f3 ∧ x.f3 ≤ 5)) ∧ (x.f0 = 6 → 0 ≤ x.f1 ∧ x.f1 ≤ 5) ∧ (x.f0 = 9 → (1 ≤ x.f1 ∧ x.f1 ≤ 8) ∧ (1 ≤ x.f2 ∧ x.f2 ≤ 8)) := by
  have hk := of_decide_eq_true (show decide _ = true from h)
  omega
theorem nums_b {x : S37} (h : okR x = true) : ∀ n ∈ numsOf x, 0 ≤ n ∧ n ≤ 9 := by
  obtain ⟨h0, h1, h6, h9⟩ := okR_at h
  intro n hn
  unfold numsOf at hn
  split at hn
  · simp only [List.mem_cons, List.not_mem_nil, or_false] at hn
    rename_i e
    have := h1 e
    rcases hn with rfl | rfl | rfl <;> omega
  · split at hn
    · rename_i e
      simp only [List.mem_cons, List.not_mem_nil, or_false] at hn
      have := h6 e
      subst hn; omega
    · split at hn
      · rename_i e
        simp only [List.mem_cons, List.not_mem_nil, or_false] at hn
        have := h9 e
        rcases hn with rfl | rfl <;> omega
      · cases hn
theorem nums_len (x : S37) : (numsOf x).length ≤ 3 := by
  unfold numsOf
  repeat' split
  all_goals simp
theorem numsJ1 {x : S37} (h : x.f0 = 1) : joinB ((numsOf x).map dec) ⟨#[46]⟩ = (((dec x.f1 ++ ⟨#[46]⟩) ++ dec x.f2) ++ ⟨#[46]⟩) ++ dec x.f3 := by
  have e : (numsOf x).map dec = ([dec x.f1] ++ [dec x.f2]) ++ [dec x.f3] := by unfold numsOf; rw [if_pos h]; rfl
  rw [e, joinB_snoc _ _ _ (by simp), joinB_snoc _ _ _ (by simp), joinB_one]
theorem numsJ6 {x : S37} (h : x.f0 = 6) : joinB ((numsOf x).map dec) ⟨#[46]⟩ = dec x.f1 := by
  have e : (numsOf x).map dec = [dec x.f1] := by unfold numsOf; rw [if_neg (by omega), if_pos h]; rfl
  rw [e, joinB_one]
theorem numsJ9 {x : S37} (h : x.f0 = 9) : joinB ((numsOf x).map dec) ⟨#[46]⟩ = (dec x.f1 ++ ⟨#[46]⟩) ++ dec x.f2 := by
  have e : (numsOf x).map dec = [dec x.f1] ++ [dec x.f2] := by unfold numsOf; rw [if_neg (by omega), if_neg (by omega), if_pos h]; rfl
  rw [e, joinB_snoc _ _ _ (by simp), joinB_one]
theorem numsJ0 {x : S37} (h1 : x.f0 ≠ 1) (h6 : x.f0 ≠ 6) (h9 : x.f0 ≠ 9) : joinB ((numsOf x).map dec) ⟨#[46]⟩ = ⟨#[]⟩ := by
  have e : (numsOf x).map dec = [] := by unfold numsOf; rw [if_neg h1, if_neg h6, if_neg h9]; rfl
  rw [e, joinB_nil]
theorem dot_size : (⟨#[46]⟩ : ByteArray).size = 1 := rfl
theorem spc_size : (⟨#[32]⟩ : ByteArray).size = 1 := rfl
theorem emp_size : (⟨#[]⟩ : ByteArray).size = 0 := rfl
theorem nums_size {x : S37} (h : okR x = true) : (joinB ((numsOf x).map dec) ⟨#[46]⟩).size ≤ 100 := by
  obtain ⟨h0, h1, h6, h9⟩ := okR_at h
  by_cases e1 : x.f0 = 1
  · have := h1 e1
    have s1 := dec_size x.f1 (by omega) (by omega)
    have s2 := dec_size x.f2 (by omega) (by omega)
    have s3 := dec_size x.f3 (by omega) (by omega)
    rw [numsJ1 e1]
    simp only [ByteArray.size_append', dot_size]
    omega
  by_cases e6 : x.f0 = 6
  · have := h6 e6
    have s1 := dec_size x.f1 (by omega) (by omega)
    rw [numsJ6 e6]
    omega
  by_cases e9 : x.f0 = 9
  · have := h9 e9
    have s1 := dec_size x.f1 (by omega) (by omega)
    have s2 := dec_size x.f2 (by omega) (by omega)
    rw [numsJ9 e9]
    simp only [ByteArray.size_append', dot_size]
    omega
  · rw [numsJ0 e1 e6 e9, emp_size]; omega
theorem word_size {x : S37} (h : okR x = true) : (wordT x).size ≤ 101 := by
  have g1 := nums_size h
  have g2 := let_size x.f0 (okR_at h).1
  unfold wordT
  rw [ByteArray.size_append']
  omega
theorem des_size {xs : List S37} (h : ∀ i, i < xs.length → okR (nth xs i z37) = true) : ∀ i, i ≤ xs.length → (desT xs i).size ≤ 102 * i
  | 0, _ => by show (⟨#[]⟩ : ByteArray).size ≤ _; rw [emp_size]; omega
  | i + 1, hi => by
    have g1 := des_size h i (by omega)
    have g2 := word_size (h i (by omega))
    show ((if i > 0 then desT xs i ++ ⟨#[32]⟩ else desT xs i) ++ wordT (nth xs i z37)).size ≤ _
    rw [ByteArray.size_append']
    split
    · rw [ByteArray.size_append', spc_size]; omega
    · omega
/-- The words, joined. -/
theorem des_join (xs : List S37) : ∀ i, i ≤ xs.length → joinB ((xs.take i).map wordT) ⟨#[32]⟩ = desT xs i
  | 0, _ => rfl
  | i + 1, hi => by
    have ih := des_join xs i (by omega)
    have e : (xs.take (i + 1)).map wordT = (xs.take i).map wordT ++ [wordT (nth xs i z37)] := by
      rw [List.take_add_one, List.map_append, nth_get (by omega : i < xs.length), List.getElem?_eq_getElem (by omega : i < xs.length)]; rfl
    rw [e]
    show _ = (if i > 0 then desT xs i ++ ⟨#[32]⟩ else desT xs i) ++ wordT (nth xs i z37)
    by_cases h0 : i > 0
    · rw [if_pos h0, joinB_snoc _ _ _ (by intro e2; have := congrArg List.length e2; rw [List.length_map, List.length_take, List.length_nil] at this; omega), ih]
    · obtain rfl : i = 0 := by omega
      rw [if_neg h0]
      show joinB ([] ++ [_]) _ = ⟨#[]⟩ ++ _
      rw [List.nil_append, joinB_one, show (⟨#[]⟩ : ByteArray) = ByteArray.empty from rfl, ByteArray.empty_append]
theorem goodD_at {l : List S37} (h : goodD l = true) : l.length ≤ 20 ∧ ∀ i, i < l.length → okR (nth l i z37) = true := by
  unfold goodD at h
  split at h
  · rename_i ha
    exact ⟨of_decide_eq_true h, fun i hi => by rw [nth_get hi]; exact List.all_eq_true.1 ha _ (List.getElem_mem hi)⟩
  · cases h
end Go.Proofs.YtacimfnaacdobaaDoor.M
