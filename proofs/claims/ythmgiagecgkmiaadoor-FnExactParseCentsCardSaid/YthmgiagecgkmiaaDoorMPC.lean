import Derived.Test.YthmgiagecgkmiaaDoorMTP
import Derived.Lib.Replace
import Derived.Lib.SlTrimSet
import Derived.Lib.Strings
/-! Cents out of a text: plain words. -/
namespace Go.Proofs.YthmgiagecgkmiaaDoor.M
open Go Go.RowKit
set_option linter.unusedSimpArgs false
set_option linter.unusedVariables false
namespace PC
theorem rep1 (c : UInt8) : ∀ s : List UInt8, Lib.replaceK [c] [] (Lib.count s [c]) s = s.filter (fun b => b != c) := by
  intro s
  induction s with
  | nil => rw [Lib.count_one]; rfl
  | cons b l ih =>
    by_cases h : b = c
    · subst h
      have h0 : Lib.index (b :: l) [b] = ((0 : Nat) : Int) := by unfold Lib.index; simp
      rw [Lib.count_cons_eq, Nat.add_comm, Lib.replaceK_hit [b] [] _ _ 0 h0]
      simp [ih]
    · rw [Lib.count_cons_ne b c l h, List.filter_cons, if_pos (by simpa using h)]
      by_cases hk : Lib.count l [c] = 0
      · rw [hk] at ih ⊢
        rw [← ih]; rfl
      · obtain ⟨i, hi⟩ := Lib.index_of_count (s := l) (old := [c]) (by omega)
        have hi2 : Lib.index (b :: l) [c] = ((i + 1 : Nat) : Int) := by
          unfold Lib.index
          rw [hi, if_neg (by simp; exact fun e => h e.symm), if_neg (by simp)]; rfl
        obtain ⟨k, hk2⟩ : ∃ k, Lib.count l [c] = k + 1 := ⟨Lib.count l [c] - 1, by omega⟩
        rw [hk2] at ih ⊢
        rw [Lib.replaceK_hit [c] [] k _ (i + 1) hi2]
        rw [Lib.replaceK_hit [c] [] k _ i hi] at ih
        rw [← ih]
        simp
theorem repAll (c : UInt8) (s : List UInt8) : Lib.replaceAll s [c] [] = s.filter (fun b => b != c) := by
  unfold Lib.replaceAll Lib.replace
  rw [if_neg (by simp)]
  unfold Lib.replaceNum
  rw [if_pos (.inl (by decide))]
  exact rep1 c s
theorem dropWhile_nil (p : UInt8 → Bool) : ∀ l : List UInt8, l.dropWhile p = [] ↔ l.all p = true
  | [] => by simp
  | b :: l => by
    by_cases h : p b = true
    · simp [List.dropWhile, h, dropWhile_nil p l]
    · simp [List.dropWhile, h]
theorem dw_all (p : UInt8 → Bool) (l : List UInt8) (h : l.all p = true) : l.dropWhile p = [] := (dropWhile_nil p l).2 h
theorem dw_sub (p : UInt8 → Bool) : ∀ l : List UInt8, (l.dropWhile p).all p = true → l.all p = true
  | [], _ => rfl
  | b :: l, h => by
    by_cases hb : p b = true
    · simp only [List.dropWhile, hb] at h
      simp [hb]
      simpa using dw_sub p l h
    · simp only [List.dropWhile, hb] at h
      simp [hb] at h
theorem trim_nil (l cs : List UInt8) : Lib.trimS l cs = [] ↔ l.all (cs.contains ·) = true := by
  unfold Lib.trimS Lib.trimLeftS Lib.trimRightS
  rw [dropWhile_nil]
  constructor
  · intro h
    rw [List.all_reverse] at h
    have := dw_sub _ _ h
    rwa [List.all_reverse] at this
  · intro h
    rw [dw_all _ l.reverse (by rw [List.all_reverse]; exact h)]
    rfl
def isD (b : UInt8) : Bool := decide (48 ≤ b.toNat ∧ b.toNat ≤ 57)
theorem dig_isD : ∀ u, u < 10 → isD (UInt8.ofNat (48 + u)) = true := by decide +kernel
theorem dig_ne : ∀ u, u < 10 → (UInt8.ofNat (48 + u) != 46) = true := by decide +kernel
theorem dd_all (n : Nat) : ∀ u, u < n → (Lib.decDigits u).all isD = true := by
  induction n with
  | zero => intro u h; omega
  | succ n ih =>
    intro u h
    rw [Lib.decDigits.eq_def]
    by_cases h10 : u < 10
    · rw [dif_pos h10, List.all_cons, dig_isD u h10]; rfl
    · rw [dif_neg h10, List.all_append, ih (u / 10) (by omega)]
      rw [List.all_cons, dig_isD (u % 10) (by omega)]; rfl
theorem dd_isD (u : Nat) : (Lib.decDigits u).all isD = true := dd_all (u + 1) u (by omega)
theorem dd_len (k : Nat) : ∀ u, u < 10 ^ (k + 1) → (Lib.decDigits u).length ≤ k + 1 := by
  induction k with
  | zero =>
    intro u h
    rw [Lib.decDigits.eq_def, dif_pos (by omega)]
    simp
  | succ k ih =>
    intro u h
    rw [Lib.decDigits.eq_def]
    by_cases h10 : u < 10
    · rw [dif_pos h10]; simp
    · rw [dif_neg h10, List.length_append]
      have := ih (u / 10) (by rw [Nat.pow_succ] at h; omega)
      simp only [List.length_cons, List.length_nil]
      omega
/-- The number that the digits among some bytes tell. -/
def num (l : List UInt8) : Nat := l.foldl (fun n b => if isD b = true then 10 * n + (b.toNat - 48) else n) 0
theorem num_snoc (l : List UInt8) (b : UInt8) : num (l ++ [b]) = if isD b = true then 10 * num l + (b.toNat - 48) else num l := by simp [num]
theorem num_lt (n : Nat) : ∀ l : List UInt8, l.length = n → num l < 10 ^ n := by
  induction n with
  | zero => intro l h; rw [List.eq_nil_of_length_eq_zero h]; decide
  | succ n ih =>
    intro l h
    obtain ⟨q, b, rfl⟩ : ∃ q b, l = q ++ [b] := ⟨l.dropLast, l.getLast (by intro e; rw [e] at h; cases h), (List.dropLast_concat_getLast _).symm⟩
    have := ih q (by simpa using h)
    rw [num_snoc, Nat.pow_succ]
    split
    · rename_i hb
      unfold isD at hb
      rw [decide_eq_true_iff] at hb
      omega
    · omega
theorem num_filter (p : UInt8 → Bool) (hp : ∀ b, isD b = true → p b = true) (l : List UInt8) : num (l.filter p) = num l := by
  unfold num
  rw [List.foldl_filter]
  congr 1
  funext n b
  by_cases h : isD b = true
  · simp [h, hp b h]
  · simp [h]
/-- What is left of a text without a leading minus and without points. -/
def digs (l : List UInt8) : List UInt8 := (Lib.trimPrefix l [45]).filter (fun b => b != 46)
theorem num_digs (l : List UInt8) : num (digs l) = num l := by
  unfold digs
  rw [num_filter _ (fun b h => by
    unfold isD at h
    rw [decide_eq_true_iff] at h
    simp only [bne_iff_ne, ne_eq]
    rintro rfl
    revert h; decide)]
  unfold Lib.trimPrefix Lib.hasPrefix
  cases l with
  | nil => rfl
  | cons b l =>
    by_cases h : b = 45
    · subst h
      rw [if_pos (by simp)]
      have : isD 45 = false := by decide
      simp [num, this]
    · rw [if_neg (by simp; exact fun e => h e.symm)]
def neg (l : List UInt8) : Bool := Lib.hasPrefix l [45]
/-- The cents that a text tells. -/
def val (l : List UInt8) : Int := if neg l = true then -(num l : Int) else (num l : Int)
/-- The bytes of a text of cents. -/
def cL (u : Nat) : List UInt8 := Lib.decDigits (u / 100) ++ [46] ++ Lib.decDigits (u / 10 % 10) ++ Lib.decDigits (u % 10)
def tL (n : Int) : List UInt8 := if n < 0 then 45 :: cL n.natAbs else cL n.natAbs
theorem ne46 {l : List UInt8} (h : l.all isD = true) : l.filter (fun b => b != 46) = l := by
  rw [List.filter_eq_self]
  intro b hb
  have := List.all_eq_true.1 h b hb
  unfold isD at this
  rw [decide_eq_true_iff] at this
  simp only [bne_iff_ne, ne_eq]
  rintro rfl
  revert this; decide
theorem cL_filter (u : Nat) : (cL u).filter (fun b => b != 46) = Lib.decDigits (u / 100) ++ Lib.decDigits (u / 10 % 10) ++ Lib.decDigits (u % 10) := by
  unfold cL
  rw [List.filter_append, List.filter_append, List.filter_append, ne46 (dd_isD _), ne46 (dd_isD _), ne46 (dd_isD _)]
  simp
theorem dd_ne (u : Nat) : Lib.decDigits u ≠ [] := by
  rw [Lib.decDigits.eq_def]
  split <;> simp
theorem cL_pre (u : Nat) : Lib.hasPrefix (cL u) [45] = false := by
  unfold cL Lib.hasPrefix
  cases h : Lib.decDigits (u / 100) with
  | nil => exact absurd h (dd_ne _)
  | cons b l =>
    have hb : isD b = true := by
      have := dd_isD (u / 100)
      rw [h, List.all_cons, Bool.and_eq_true] at this
      exact this.1
    have : ((45 : UInt8) == b) = false := by
      rw [beq_eq_false_iff_ne]
      rintro rfl
      revert hb; decide
    rw [List.append_assoc, List.append_assoc, List.cons_append, List.isPrefixOf, this]
    rfl
theorem digs_tL (n : Int) : digs (tL n) = Lib.decDigits (n.natAbs / 100) ++ Lib.decDigits (n.natAbs / 10 % 10) ++ Lib.decDigits (n.natAbs % 10) := by
  unfold digs tL Lib.trimPrefix
  by_cases h : n < 0
  · rw [if_pos h, if_pos (by unfold Lib.hasPrefix; simp)]
    show (List.drop 1 _).filter _ = _
    rw [List.drop_one, List.tail_cons, cL_filter]
  · rw [if_neg h, if_neg (by rw [cL_pre]; simp), cL_filter]
theorem tL_form (n : Int) (h : -100000000 ≤ n ∧ n ≤ 100000000) : (tL n).length ≤ 12 ∧ (digs (tL n)).length ≤ 9 ∧ (digs (tL n)).all isD = true := by
  have h1 := dd_len 6 (n.natAbs / 100) (by omega)
  have h2 := dd_len 0 (n.natAbs / 10 % 10) (by omega)
  have h3 := dd_len 0 (n.natAbs % 10) (by omega)
  rw [digs_tL]
  refine ⟨?_, ?_, ?_⟩
  · unfold tL cL
    split <;> (simp only [List.length_append, List.length_cons, List.length_nil]; omega)
  · simp only [List.length_append]; omega
  · simp [List.all_append, dd_isD]
/-- What is answered. -/
def good (l : List UInt8) : Prop := l.length ≤ 12 ∧ (-100000000 ≤ val l ∧ val l ≤ 100000000) ∧ tL (val l) = l
theorem good_form {l : List UInt8} (h : good l) : (digs l).length ≤ 9 ∧ (digs l).all isD = true := by
  have := tL_form (val l) h.2.1
  rw [h.2.2] at this
  exact this.2
theorem good_of {l : List UInt8} (h1 : -100000000 ≤ val l ∧ val l ≤ 100000000) (h2 : tL (val l) = l) : good l := ⟨by have := (tL_form (val l) h1).1; rwa [h2] at this, h1, h2⟩
theorem num_12 {l : List UInt8} (h : l.length ≤ 12) : num l < 1000000000000 := by
  have := num_lt _ l rfl
  have h2 : 10 ^ l.length ≤ 10 ^ 12 := Nat.pow_le_pow_right (by omega) h
  omega
theorem num_9 {l : List UInt8} (h : (digs l).length ≤ 9) : num l < 1000000000 := by
  have := num_lt _ (digs l) rfl
  have h2 : 10 ^ (digs l).length ≤ 10 ^ 9 := Nat.pow_le_pow_right (by omega) h
  rw [num_digs] at this
  omega
theorem num_take_lt (l : List UInt8) (i : Nat) (hi : i < l.length) : num (l.take (i + 1)) = if isD l[i] = true then 10 * num (l.take i) + (l[i].toNat - 48) else num (l.take i) := by
  rw [List.take_succ_eq_append_getElem hi, num_snoc]
theorem num_take_le (l : List UInt8) (i n : Nat) (hn : l.length ≤ n) : num (l.take i) < 10 ^ n := by
  have := num_lt _ (l.take i) rfl
  have h2 : 10 ^ (l.take i).length ≤ 10 ^ n := Nat.pow_le_pow_right (by omega) (by rw [List.length_take]; omega)
  omega

theorem cP_list (u : Nat) : (cP u).data.toList = cL u := by
  unfold cP cL
  rw [dec_nat, dec_nat, dec_nat, ByteArray.mk_append_mk, ByteArray.mk_append_mk, ByteArray.mk_append_mk]
theorem cT_list (n : Int) : (cT n).data.toList = tL n := by
  unfold cT tL
  by_cases h : n < 0
  · rw [if_pos h, if_pos h, ← cP_list]
    show ((⟨#[45]⟩ : ByteArray) ++ (⟨(cP n.natAbs).data⟩ : ByteArray)).data.toList = _
    rw [show (⟨(cP n.natAbs).data⟩ : ByteArray) = ⟨((cP n.natAbs).data.toList).toArray⟩ by simp, show (⟨#[45]⟩ : ByteArray) = ⟨([45] : List UInt8).toArray⟩ from rfl, ByteArray.mk_append_mk]
    simp
  · rw [if_neg h, if_neg h, cP_list]
theorem ba_eq {p q : ByteArray} : (p.toList == q.toList) = true ↔ p.data.toList = q.data.toList := by
  rw [beq_iff_eq, Lib.toList_data, Lib.toList_data]
/-- What both answer. -/
def cents (s : ByteArray) : List UInt8 := s.data.toList
open Classical in
noncomputable def pc (s : ByteArray) : Int × Bool := if good s.data.toList then (val s.data.toList, true) else (0, false)
/-- The text of the cents, held against the text. -/
def same (s : ByteArray) : Bool := (cT (val s.data.toList)).toList == s.toList
theorem same_iff (s : ByteArray) : same s = true ↔ tL (val s.data.toList) = s.data.toList := by
  unfold same
  rw [ba_eq, cT_list]
theorem pc_no {s : ByteArray} (h : ¬ good s.data.toList) : pc s = (0, false) := by unfold pc; rw [if_neg h]
theorem pc_yes {s : ByteArray} (h1 : -100000000 ≤ val s.data.toList ∧ val s.data.toList ≤ 100000000) (h2 : same s = true) : pc s = (val s.data.toList, true) := by
  unfold pc
  rw [if_pos (good_of h1 ((same_iff s).1 h2))]
theorem pc_not {s : ByteArray} (h : ¬ ((-100000000 ≤ val s.data.toList ∧ val s.data.toList ≤ 100000000) ∧ same s = true)) : pc s = (0, false) :=
  pc_no (fun g => h ⟨g.2.1, (same_iff s).2 g.2.2⟩)
end PC
end Go.Proofs.YthmgiagecgkmiaaDoor.M
