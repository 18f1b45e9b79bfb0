import Derived.Test.YthmgiagecgkmiaaDoorMTX
import Derived.Test.YthmgiagecgkmiaaDoorMSp
import Derived.Test.YthmgiagecgkmiaaDoorSLT
import Derived.Test.YthmgiagecgkmiaaDoorSLC
import Derived.Test.YthmgiagecgkmiaaDoorMPC
import Derived.KernelRfl
import Derived.Shelf.Strings.SlTrimAscii
import Derived.Test.YthmgiagecgkmiaaDoorQx8888801
namespace Go.Proofs.YthmgiagecgkmiaaDoor.WK
open Go Go.RowKit Go.Proofs.YthmgiagecgkmiaaDoor.Q Go.Proofs.YthmgiagecgkmiaaDoor.M Go.Proofs.YthmgiagecgkmiaaDoorW.PrintWords Go.Proofs.YthmgiagecgkmiaaDoorW.SL
open Go.Proofs.YthmgiagecgkmiaaDoor.M.PC (digs val pc same num neg isD good)
set_option linter.unusedSimpArgs false
set_option linter.unusedVariables false
set_option maxRecDepth 100000
namespace PCW
theorem en17 : Ent Tryd.prog 17 := ⟨enters_of Tryd.func17 (by kernel_rfl) rfl⟩
theorem en18 : Ent Tryd.prog 18 := ⟨enters_of Tryd.func18 (by kernel_rfl) rfl⟩
theorem en19 : Ent Tryd.prog 19 := ⟨enters_of Tryd.func19 (by kernel_rfl) rfl⟩
theorem en20 : Ent Tryd.prog 20 := ⟨enters_of Tryd.func20 (by kernel_rfl) rfl⟩
theorem en8 : Ent Tryd.prog 8 := ⟨enters_of Tryd.func8 (by kernel_rfl) rfl⟩
theorem en35 : Ent Tryd.prog 35 := ⟨enters_of Tryd.func35 (by kernel_rfl) rfl⟩
theorem en36 : Ent Tryd.prog 36 := ⟨enters_of Tryd.func36 (by kernel_rfl) rfl⟩
theorem en37 : Ent Tryd.prog 37 := ⟨enters_of Tryd.func37 (by kernel_rfl) rfl⟩
theorem en38 : Ent Tryd.prog 38 := ⟨enters_of Tryd.func38 (by kernel_rfl) rfl⟩
theorem size_l (s : ByteArray) : s.data.toList.length = s.size := by simp
/-- What is left of the text: its digits. -/
def D (s : ByteArray) : ByteArray := ⟨(digs s.data.toList).toArray⟩
theorem dataD (s : ByteArray) : (D s).data.toList = digs s.data.toList := rfl
theorem sizeD (s : ByteArray) : (D s).size = (digs s.data.toList).length := by rw [← size_l, dataD]
theorem lenD_ (s : ByteArray) : goInt (D s).size = .int .i64 ((digs s.data.toList).length : Int) := by rw [sizeD]; rfl
theorem wrap8 (x : Nat) (h : 48 ≤ x) (h2 : x < 256) : IntKind.u8.wrap ((x : Int) - 48) = ((x - 48 : Nat) : Int) := by simp [IntKind.wrap, IntKind.bits, IntKind.signed]; omega
theorem neg_get {l : List UInt8} {b : UInt8} (h : l[0]? = some b) : neg l = true ↔ (b.toNat : Int) = 45 := by
  cases l with
  | nil => cases h
  | cons c l =>
    have h1 : c = b := by simpa using h
    subst h1
    have h2 : neg (c :: l) = ((45 : UInt8) == c) := by unfold neg Lib.hasPrefix; simp [List.isPrefixOf]
    rw [h2, beq_iff_eq]
    constructor
    · rintro rfl; rfl
    · intro h
      apply UInt8.toNat_inj.1
      show 45 = c.toNat
      omega
theorem neg_nil {l : List UInt8} (h : l.length = 0) : neg l = false := by rw [List.eq_nil_of_length_eq_zero h]; rfl
theorem digs_le (l : List UInt8) : (digs l).length ≤ l.length := by
  unfold digs Lib.trimPrefix
  refine Nat.le_trans (List.length_filter_le _ _) ?_
  split
  · rw [List.length_drop]; omega
  · exact Nat.le_refl _
theorem trim_le (l : List UInt8) : (Lib.trimPrefix l [45]).length ≤ l.length := by
  unfold Lib.trimPrefix
  split
  · rw [List.length_drop]; omega
  · exact Nat.le_refl _
theorem trimP_ (s : ByteArray) (w : World) : Calls Tryd.prog 36 #[.string s, .string ⟨#[45]⟩] w fun e w' => e = .returned (.string ⟨(Lib.trimPrefix s.data.toList [45]).toArray⟩) ∧ Below w.heap.size w w' :=
  (Tryd.strings_TrimPrefix s ⟨#[45]⟩ w).mono (by rintro e w' ⟨h, rfl⟩; exact ⟨h, Below.refl _ _⟩)
theorem repl_ (s : ByteArray) (m : Int) (w : World) (hs : s.size ≤ 1048576) (hm : w.cell? ⟨0, 0, none⟩ = some (.int .i64 m)) : Calls Tryd.prog 35 #[.string ⟨(Lib.trimPrefix s.data.toList [45]).toArray⟩, .string ⟨#[46]⟩, .string ⟨#[]⟩] w fun e w' => e = .returned (.string (D s)) ∧ Below w.heap.size w w' := by
  have hz : (⟨(Lib.trimPrefix s.data.toList [45]).toArray⟩ : ByteArray).size = (Lib.trimPrefix s.data.toList [45]).length := by rw [← size_l]
  have h1 := trim_le s.data.toList
  rw [size_l] at h1
  have := Tryd.strings_ReplaceAll ⟨(Lib.trimPrefix s.data.toList [45]).toArray⟩ ⟨#[46]⟩ ⟨#[]⟩ m w (by omega) hm (by decide) (by rw [hz]; show _ + _ * 0 ≤ _; omega)
  refine this.mono ?_
  rintro e w' ⟨h, hb⟩
  refine ⟨?_, hb⟩
  rw [h]
  show Ending.returned (.string ⟨(Lib.replaceAll (Lib.trimPrefix s.data.toList [45]) [46] []).toArray⟩) = _
  rw [PC.repAll]
  rfl
abbrev ten : ByteArray := ⟨#[48, 49, 50, 51, 52, 53, 54, 55, 56, 57]⟩
theorem trim_ (s : ByteArray) (w : World) (hs : s.size ≤ 1048576) : Calls Tryd.prog 37 #[.string (D s), .string ten] w fun e w' => e = .returned (.string ⟨(Lib.trimS (digs s.data.toList) ten.data.toList).toArray⟩) ∧ Below w.heap.size w w' := by
  have h1 := digs_le s.data.toList
  rw [size_l, ← sizeD] at h1
  exact Any.strings_Trim_laid Tryd.lays160 (by kernel_rfl) (D s) ten w (by omega) (by decide) (ascii_of_all (by decide))
theorem inTen (b : UInt8) : ten.data.toList.contains b = isD b := by
  have : ∀ b : Fin 256, ten.data.toList.contains (UInt8.ofNat b.val) = isD (UInt8.ofNat b.val) := by decide +kernel
  have h := this ⟨b.toNat, b.toNat_lt⟩
  simpa using h
theorem trim_empty (s : ByteArray) (bb : Bool) (h : (digs s.data.toList).all isD = !bb) : (!((⟨(Lib.trimS (digs s.data.toList) ten.data.toList).toArray⟩ : ByteArray).toList == (⟨#[]⟩ : ByteArray).toList)) = bb := by
  have e : ((⟨(Lib.trimS (digs s.data.toList) ten.data.toList).toArray⟩ : ByteArray).toList == (⟨#[]⟩ : ByteArray).toList) = true ↔ (digs s.data.toList).all isD = true := by
    rw [PC.ba_eq]
    show Lib.trimS _ _ = [] ↔ _
    rw [PC.trim_nil]
    have : (fun x => ten.data.toList.contains x) = isD := funext inTen
    rw [this]
  cases bb with
  | true =>
    rw [Bool.not_eq_true']
    rw [Bool.eq_false_iff]
    intro hh
    rw [e.1 hh] at h
    cases h
  | false => rw [e.2 h]; rfl
theorem pref_ (s : ByteArray) (w : World) : Calls Tryd.prog 38 #[.string s, .string ⟨#[45]⟩] w fun e w' => e = .returned (.bool (neg s.data.toList)) ∧ Below w.heap.size w w' :=
  (Tryd.strings_HasPrefix s ⟨#[45]⟩ w).mono (by rintro e w' ⟨h, rfl⟩; exact ⟨h, Below.refl _ _⟩)
theorem val_at (l : List UInt8) (b : Bool) (h : neg l = b) : val l = if b = true then -(num l : Int) else (num l : Int) := by subst h; rfl
theorem cents_ (n : Int) (b : Bool) (hb : b = decide (-100000000 ≤ n ∧ n ≤ 100000000)) (w : World) : Calls Tryd.prog 19 #[.int .i64 n] w fun e w' => e = .returned (.bool b) ∧ Below w.heap.size w w' := by
  subst hb
  refine (spec_l26Cents.calls n _ w ?_).mono (fun _ _ h => ⟨h.1, h.2.below⟩)
  unfold spec_l26Cents.f spec_l1In.f
  by_cases h1 : -100000000 ≤ n <;> by_cases h2 : n ≤ 100000000 <;> simp [h1, h2] <;> omega
theorem take_at {l : List UInt8} {i : Nat} {b : UInt8} (h : l[i]? = some b) : num (l.take (i + 1)) = if isD b = true then 10 * num (l.take i) + (b.toNat - 48) else num (l.take i) := by
  have hi := (List.getElem?_eq_some_iff.1 h).1
  have e : l[i] = b := by
    have := List.getElem?_eq_getElem hi
    rw [this] at h
    exact Option.some.inj h
  rw [PC.num_take_lt l i hi, e]
set_option maxHeartbeats 4000000 in
/-- The reference's ParseCents. -/
theorem spec17 (s : ByteArray) (w : World) : Calls Tryd.prog 17 #[.string s] w fun e w' => e = .returned (.tuple #[.int .i64 (pc s).1, .bool (pc s).2]) ∧ Below w.heap.size w w' := by
  let Rr : Ending → World → Prop := fun e w' => e = .returned (.tuple #[.int .i64 (pc s).1, .bool (pc s).2]) ∧ Below w.heap.size w w'
  refine enterW (args := [.string s]) [] (fun p hp W hb => by cases hp) Tryd.func17 rfl rfl ?_
  show Cj Tryd.prog _ _ _ (bodyPost Tryd.prog Tryd.f17 Rr) _ _ _
  by_cases h12 : 12 < s.size
  · have hpc := PC.pc_no (s := s) (fun g => by have := g.1; rw [size_l] at this; omega)
    repeat (first
    | (apply gateO; first
      | refine Jl.yd (Y.mv rfl rfl) rfl rfl rfl ?_
      | refine Jl.yd (Y.asg rfl rfl) rfl rfl rfl ?_
      | refine Jl.yd (Y.ext rfl rfl rfl) rfl rfl rfl ?_
      | refine Jl.yd (Y.pickT rfl rfl rfl) rfl rfl rfl ?_
      | refine Jl.yd (Y.pickF rfl rfl rfl) rfl rfl rfl ?_
      | refine Jl.off rfl rfl rfl ?_
      | refine Jl.yd (Y.cmpF rfl rfl rfl rfl (by omega)) rfl rfl rfl ?_
      | refine Jl.yd (Y.cmpT rfl rfl rfl rfl (by omega)) rfl rfl rfl ?_
      | refine Jl.yd (Y.neqB rfl rfl rfl Tryd.underlying4) rfl rfl rfl ?_
      | refine Jl.yd (Y.cmp rfl rfl rfl rfl) rfl rfl rfl ?_
      | refine Jl.yd (Y.not rfl rfl) rfl rfl rfl ?_
      | refine Jl.yd (Y.arithN rfl rfl rfl rfl (by omega)) rfl rfl rfl ?_
      | refine Jl.yd (Y.arith64 rfl rfl rfl rfl) rfl rfl rfl ?_
      | refine Jl.yd (Y.lenT (s := s) (n := (s.size : Int)) rfl rfl Tryd.underlying9 rfl) rfl rfl rfl ?_
      | refine Jl.splitG rfl rfl (fun h => ?_) (fun h => ?_))
    | (apply gateE; first
      | refine Jl.nil (Ej.go ?_ (fun _ _ h => h))
      | (refine Jl.nil (Ej.back (fun _ _ h => h) (by repeat (first | exact .refl | apply DropTo.tail)) ?_); repeat (first | exact trivial | refine ⟨rfl, ?_⟩)))
    | (apply gateC; first
      | refine Cj.ret rfl (Ej.out2 (P := Tryd.prog) (fn := Tryd.f17) (R := Rr) (fun _ _ h => h) rfl rfl rfl (fun w' hW => ⟨by rw [hpc], hW.below⟩))
      | refine Cj.condF rfl rfl (Cj.skip rfl (Ej.go ?_ (fun _ _ h => h)))
      | (refine Cj.condF rfl rfl (Cj.skip rfl (Ej.back (fun _ _ h => h) (by repeat (first | exact .refl | apply DropTo.tail)) ?_)); repeat (first | exact trivial | refine ⟨rfl, ?_⟩))
      | refine Cj.condF rfl rfl ?_
      | refine Cj.condT rfl rfl ?_
      | refine Cj.exit rfl (Ej.go ?_ (fun _ _ h => h))
      | refine Cj.cond rfl rfl (fun h => ?_) (fun h => ?_)
      | refine Cj.skip rfl (Ej.go ?_ (fun _ _ h => h))
      | (refine Cj.skip rfl (Ej.back (fun _ _ h => h) (by repeat (first | exact .refl | apply DropTo.tail)) ?_); repeat (first | exact trivial | refine ⟨rfl, ?_⟩))
      | refine Cj.seq rfl ?_
      | refine Cj.region rfl ?_))
  · repeat (first
    | (apply gateO; first
      | refine Jl.yd (Y.mv rfl rfl) rfl rfl rfl ?_
      | refine Jl.yd (Y.asg rfl rfl) rfl rfl rfl ?_
      | refine Jl.yd (Y.ext rfl rfl rfl) rfl rfl rfl ?_
      | refine Jl.yd (Y.pickT rfl rfl rfl) rfl rfl rfl ?_
      | refine Jl.yd (Y.pickF rfl rfl rfl) rfl rfl rfl ?_
      | refine Jl.off rfl rfl rfl ?_
      | refine Jl.yd (Y.cmpF rfl rfl rfl rfl (by omega)) rfl rfl rfl ?_
      | refine Jl.yd (Y.cmpT rfl rfl rfl rfl (by omega)) rfl rfl rfl ?_
      | refine Jl.yd (Y.neqB rfl rfl rfl Tryd.underlying4) rfl rfl rfl ?_
      | refine Jl.yd (Y.cmp rfl rfl rfl rfl) rfl rfl rfl ?_
      | refine Jl.yd (Y.not rfl rfl) rfl rfl rfl ?_
      | refine Jl.yd (Y.arithN rfl rfl rfl rfl (by omega)) rfl rfl rfl ?_
      | refine Jl.yd (Y.arith64 rfl rfl rfl rfl) rfl rfl rfl ?_
      | refine Jl.yd (Y.lenT (s := s) (n := (s.size : Int)) rfl rfl Tryd.underlying9 rfl) rfl rfl rfl ?_
      | refine Jl.splitG rfl rfl (fun h => ?_) (fun h => ?_))
    | (apply gateE; first
      | refine Jl.nil (Ej.go ?_ (fun _ _ h => h))
      | (refine Jl.nil (Ej.back (fun _ _ h => h) (by repeat (first | exact .refl | apply DropTo.tail)) ?_); repeat (first | exact trivial | refine ⟨rfl, ?_⟩)))
    | (apply gateC; first
      | refine Cj.block rfl ?_
      | refine Cj.condF rfl rfl (Cj.skip rfl (Ej.go ?_ (fun _ _ h => h)))
      | (refine Cj.condF rfl rfl (Cj.skip rfl (Ej.back (fun _ _ h => h) (by repeat (first | exact .refl | apply DropTo.tail)) ?_)); repeat (first | exact trivial | refine ⟨rfl, ?_⟩))
      | refine Cj.condF rfl rfl ?_
      | refine Cj.condT rfl rfl ?_
      | refine Cj.exit rfl (Ej.go ?_ (fun _ _ h => h))
      | refine Cj.cond rfl rfl (fun h => ?_) (fun h => ?_)
      | refine Cj.skip rfl (Ej.go ?_ (fun _ _ h => h))
      | (refine Cj.skip rfl (Ej.back (fun _ _ h => h) (by repeat (first | exact .refl | apply DropTo.tail)) ?_); repeat (first | exact trivial | refine ⟨rfl, ?_⟩))
      | refine Cj.seq rfl ?_
      | refine Cj.region rfl ?_))
    refine Cj.loopP (ι := Nat) (fun i => i ≤ s.size) (fun i => [(0, .string s), (4, .int .i64 ((num (s.data.toList.take i) : Nat) : Int)), (5, .int .i64 (i : Int))]) (fun _ => []) (fun _ => []) (fun i => s.size - i) rfl 0 (Nat.zero_le _) ⟨rfl, rfl, rfl, trivial⟩ .nil (fun p hp => hp) (fun i hi => ?_)
    by_cases hlt : i < s.size
    · obtain ⟨b, hb⟩ : ∃ b, s.data.toList[i]? = some b := ⟨_, List.getElem?_eq_getElem (by rw [size_l]; omega)⟩
      have hs1 := take_at hb
      have hnb := PC.num_take_le s.data.toList i 12 (by rw [size_l]; omega)
      have hb8 : b.toNat < 256 := b.toNat_lt
      generalize num (s.data.toList.take i) = n at hs1 hnb ⊢
      unfold isD at hs1
      by_cases h48 : 48 ≤ b.toNat
      · by_cases h57 : b.toNat ≤ 57
        · rw [if_pos (decide_eq_true ⟨h48, h57⟩)] at hs1
          repeat (first
    | (apply gateO; first
      | refine Jl.yd (Y.mv rfl rfl) rfl rfl rfl ?_
      | refine Jl.yd (Y.asg rfl rfl) rfl rfl rfl ?_
      | refine Jl.yd (Y.ext rfl rfl rfl) rfl rfl rfl ?_
      | refine Jl.yd (Y.pickT rfl rfl rfl) rfl rfl rfl ?_
      | refine Jl.yd (Y.pickF rfl rfl rfl) rfl rfl rfl ?_
      | refine Jl.off rfl rfl rfl ?_
      | refine Jl.yd (Y.cmpF rfl rfl rfl rfl (by omega)) rfl rfl rfl ?_
      | refine Jl.yd (Y.cmpT rfl rfl rfl rfl (by omega)) rfl rfl rfl ?_
      | refine Jl.yd (Y.neqB rfl rfl rfl Tryd.underlying4) rfl rfl rfl ?_
      | refine Jl.yd (Y.cmp rfl rfl rfl rfl) rfl rfl rfl ?_
      | refine Jl.yd (Y.not rfl rfl) rfl rfl rfl ?_
      | refine Jl.yd (Y.arithN rfl rfl rfl rfl (by omega)) rfl rfl rfl ?_
      | refine Jl.yd (Y.arith64 rfl rfl rfl rfl) rfl rfl rfl ?_
      | refine Jl.yd (Y.lenT (s := s) (n := (s.size : Int)) rfl rfl Tryd.underlying9 rfl) rfl rfl rfl ?_
      | refine Jl.yd (Y.byteT (s := s) i rfl rfl rfl Tryd.underlying9 rfl (by omega) hb) rfl rfl rfl ?_
      | refine Jl.yd (Y.convB rfl rfl Tryd.underlying5 Tryd.underlying3 (by omega) (by omega)) rfl rfl rfl ?_
      | refine Jl.splitG rfl rfl (fun h => ?_) (fun h => ?_))
    | (apply gateE; first
      | refine Jl.nil (Ej.go ?_ (fun _ _ h => h))
      | (refine Jl.nil (Ej.back (fun _ _ h => h) (by repeat (first | exact .refl | apply DropTo.tail)) ?_); repeat (first | exact trivial | refine ⟨rfl, ?_⟩)))
    | (apply gateC; first
      | refine Cj.block rfl ?_
      | refine Cj.condF rfl rfl (Cj.skip rfl (Ej.go ?_ (fun _ _ h => h)))
      | (refine Cj.condF rfl rfl (Cj.skip rfl (Ej.back (fun _ _ h => h) (by repeat (first | exact .refl | apply DropTo.tail)) ?_)); repeat (first | exact trivial | refine ⟨rfl, ?_⟩))
      | refine Cj.condF rfl rfl ?_
      | refine Cj.condT rfl rfl ?_
      | refine Cj.exit rfl (Ej.go ?_ (fun _ _ h => h))
      | refine Cj.cond rfl rfl (fun h => ?_) (fun h => ?_)
      | refine Cj.skip rfl (Ej.go ?_ (fun _ _ h => h))
      | (refine Cj.skip rfl (Ej.back (fun _ _ h => h) (by repeat (first | exact .refl | apply DropTo.tail)) ?_); repeat (first | exact trivial | refine ⟨rfl, ?_⟩))
      | refine Cj.seq rfl ?_
      | refine Cj.region rfl ?_))
          refine Jl.nil (Ej.cutP (ι := Nat) _ _ _ _ (fun _ _ h => h) (i + 1) ⟨by omega, by omega⟩ ⟨rfl, (by show some (Value.int .i64 _) = some (.int .i64 _); congr 2; rw [hs1]; try omega), rfl, trivial⟩ .nil (fun p hp => hp))
        · rw [if_neg (by rw [decide_eq_true_iff]; omega)] at hs1
          repeat (first
    | (apply gateO; first
      | refine Jl.yd (Y.mv rfl rfl) rfl rfl rfl ?_
      | refine Jl.yd (Y.asg rfl rfl) rfl rfl rfl ?_
      | refine Jl.yd (Y.ext rfl rfl rfl) rfl rfl rfl ?_
      | refine Jl.yd (Y.pickT rfl rfl rfl) rfl rfl rfl ?_
      | refine Jl.yd (Y.pickF rfl rfl rfl) rfl rfl rfl ?_
      | refine Jl.off rfl rfl rfl ?_
      | refine Jl.yd (Y.cmpF rfl rfl rfl rfl (by omega)) rfl rfl rfl ?_
      | refine Jl.yd (Y.cmpT rfl rfl rfl rfl (by omega)) rfl rfl rfl ?_
      | refine Jl.yd (Y.neqB rfl rfl rfl Tryd.underlying4) rfl rfl rfl ?_
      | refine Jl.yd (Y.cmp rfl rfl rfl rfl) rfl rfl rfl ?_
      | refine Jl.yd (Y.not rfl rfl) rfl rfl rfl ?_
      | refine Jl.yd (Y.arithN rfl rfl rfl rfl (by omega)) rfl rfl rfl ?_
      | refine Jl.yd (Y.arith64 rfl rfl rfl rfl) rfl rfl rfl ?_
      | refine Jl.yd (Y.lenT (s := s) (n := (s.size : Int)) rfl rfl Tryd.underlying9 rfl) rfl rfl rfl ?_
      | refine Jl.yd (Y.byteT (s := s) i rfl rfl rfl Tryd.underlying9 rfl (by omega) hb) rfl rfl rfl ?_
      | refine Jl.yd (Y.convB rfl rfl Tryd.underlying5 Tryd.underlying3 (by omega) (by omega)) rfl rfl rfl ?_
      | refine Jl.splitG rfl rfl (fun h => ?_) (fun h => ?_))
    | (apply gateE; first
      | refine Jl.nil (Ej.go ?_ (fun _ _ h => h))
      | (refine Jl.nil (Ej.back (fun _ _ h => h) (by repeat (first | exact .refl | apply DropTo.tail)) ?_); repeat (first | exact trivial | refine ⟨rfl, ?_⟩)))
    | (apply gateC; first
      | refine Cj.block rfl ?_
      | refine Cj.condF rfl rfl (Cj.skip rfl (Ej.go ?_ (fun _ _ h => h)))
      | (refine Cj.condF rfl rfl (Cj.skip rfl (Ej.back (fun _ _ h => h) (by repeat (first | exact .refl | apply DropTo.tail)) ?_)); repeat (first | exact trivial | refine ⟨rfl, ?_⟩))
      | refine Cj.condF rfl rfl ?_
      | refine Cj.condT rfl rfl ?_
      | refine Cj.exit rfl (Ej.go ?_ (fun _ _ h => h))
      | refine Cj.cond rfl rfl (fun h => ?_) (fun h => ?_)
      | refine Cj.skip rfl (Ej.go ?_ (fun _ _ h => h))
      | (refine Cj.skip rfl (Ej.back (fun _ _ h => h) (by repeat (first | exact .refl | apply DropTo.tail)) ?_); repeat (first | exact trivial | refine ⟨rfl, ?_⟩))
      | refine Cj.seq rfl ?_
      | refine Cj.region rfl ?_))
          refine Jl.nil (Ej.cutP (ι := Nat) _ _ _ _ (fun _ _ h => h) (i + 1) ⟨by omega, by omega⟩ ⟨rfl, (by show some (Value.int .i64 _) = some (.int .i64 _); congr 2; rw [hs1]; try omega), rfl, trivial⟩ .nil (fun p hp => hp))
      · rw [if_neg (by rw [decide_eq_true_iff]; omega)] at hs1
        repeat (first
    | (apply gateO; first
      | refine Jl.yd (Y.mv rfl rfl) rfl rfl rfl ?_
      | refine Jl.yd (Y.asg rfl rfl) rfl rfl rfl ?_
      | refine Jl.yd (Y.ext rfl rfl rfl) rfl rfl rfl ?_
      | refine Jl.yd (Y.pickT rfl rfl rfl) rfl rfl rfl ?_
      | refine Jl.yd (Y.pickF rfl rfl rfl) rfl rfl rfl ?_
      | refine Jl.off rfl rfl rfl ?_
      | refine Jl.yd (Y.cmpF rfl rfl rfl rfl (by omega)) rfl rfl rfl ?_
      | refine Jl.yd (Y.cmpT rfl rfl rfl rfl (by omega)) rfl rfl rfl ?_
      | refine Jl.yd (Y.neqB rfl rfl rfl Tryd.underlying4) rfl rfl rfl ?_
      | refine Jl.yd (Y.cmp rfl rfl rfl rfl) rfl rfl rfl ?_
      | refine Jl.yd (Y.not rfl rfl) rfl rfl rfl ?_
      | refine Jl.yd (Y.arithN rfl rfl rfl rfl (by omega)) rfl rfl rfl ?_
      | refine Jl.yd (Y.arith64 rfl rfl rfl rfl) rfl rfl rfl ?_
      | refine Jl.yd (Y.lenT (s := s) (n := (s.size : Int)) rfl rfl Tryd.underlying9 rfl) rfl rfl rfl ?_
      | refine Jl.yd (Y.byteT (s := s) i rfl rfl rfl Tryd.underlying9 rfl (by omega) hb) rfl rfl rfl ?_
      | refine Jl.yd (Y.convB rfl rfl Tryd.underlying5 Tryd.underlying3 (by omega) (by omega)) rfl rfl rfl ?_
      | refine Jl.splitG rfl rfl (fun h => ?_) (fun h => ?_))
    | (apply gateE; first
      | refine Jl.nil (Ej.go ?_ (fun _ _ h => h))
      | (refine Jl.nil (Ej.back (fun _ _ h => h) (by repeat (first | exact .refl | apply DropTo.tail)) ?_); repeat (first | exact trivial | refine ⟨rfl, ?_⟩)))
    | (apply gateC; first
      | refine Cj.block rfl ?_
      | refine Cj.condF rfl rfl (Cj.skip rfl (Ej.go ?_ (fun _ _ h => h)))
      | (refine Cj.condF rfl rfl (Cj.skip rfl (Ej.back (fun _ _ h => h) (by repeat (first | exact .refl | apply DropTo.tail)) ?_)); repeat (first | exact trivial | refine ⟨rfl, ?_⟩))
      | refine Cj.condF rfl rfl ?_
      | refine Cj.condT rfl rfl ?_
      | refine Cj.exit rfl (Ej.go ?_ (fun _ _ h => h))
      | refine Cj.cond rfl rfl (fun h => ?_) (fun h => ?_)
      | refine Cj.skip rfl (Ej.go ?_ (fun _ _ h => h))
      | (refine Cj.skip rfl (Ej.back (fun _ _ h => h) (by repeat (first | exact .refl | apply DropTo.tail)) ?_); repeat (first | exact trivial | refine ⟨rfl, ?_⟩))
      | refine Cj.seq rfl ?_
      | refine Cj.region rfl ?_))
        refine Jl.nil (Ej.cutP (ι := Nat) _ _ _ _ (fun _ _ h => h) (i + 1) ⟨by omega, by omega⟩ ⟨rfl, (by show some (Value.int .i64 _) = some (.int .i64 _); congr 2; rw [hs1]; try omega), rfl, trivial⟩ .nil (fun p hp => hp))
    · obtain rfl : i = s.size := by omega
      rw [show s.data.toList.take s.size = s.data.toList by rw [← size_l]; exact List.take_length]
      have hlb := PC.num_12 (l := s.data.toList) (by rw [size_l]; omega)
      by_cases h0 : s.size = 0
      · have hn : neg s.data.toList = false := neg_nil (by rw [size_l]; exact h0)
        have hv := val_at _ _ hn
        rw [if_neg (by simp)] at hv
        rw [← hv]
        have hvb : -1000000000000 ≤ val s.data.toList ∧ val s.data.toList ≤ 1000000000000 := by omega
        by_cases hr : -100000000 ≤ val s.data.toList ∧ val s.data.toList ≤ 100000000
        · have hrange : true = decide (-100000000 ≤ val s.data.toList ∧ val s.data.toList ≤ 100000000) := (decide_eq_true hr).symm
          by_cases hs : same s = true
          · have hpc := PC.pc_yes hr hs
            have hsame : (!((cT (val s.data.toList)).toList == s.toList)) = false := by rw [show ((cT (val s.data.toList)).toList == s.toList) = true from hs]; rfl
            repeat (first
            | (apply gateO; first
              | refine Jl.yd (Y.mv rfl rfl) rfl rfl rfl ?_
              | refine Jl.yd (Y.asg rfl rfl) rfl rfl rfl ?_
              | refine Jl.yd (Y.ext rfl rfl rfl) rfl rfl rfl ?_
              | refine Jl.yd (Y.pickT rfl rfl rfl) rfl rfl rfl ?_
              | refine Jl.yd (Y.pickF rfl rfl rfl) rfl rfl rfl ?_
              | refine Jl.off rfl rfl rfl ?_
              | refine Jl.yd (Y.cmpF rfl rfl rfl rfl (by omega)) rfl rfl rfl ?_
              | refine Jl.yd (Y.cmpT rfl rfl rfl rfl (by omega)) rfl rfl rfl ?_
              | refine Jl.yd (Y.neqB rfl rfl rfl Tryd.underlying4) rfl rfl rfl ?_
              | refine Jl.yd (Y.cmp rfl rfl rfl rfl) rfl rfl rfl ?_
              | refine Jl.yd (Y.not rfl rfl) rfl rfl rfl ?_
              | refine Jl.yd (Y.arithN rfl rfl rfl rfl (by omega)) rfl rfl rfl ?_
              | refine Jl.yd (Y.arith64 rfl rfl rfl rfl) rfl rfl rfl ?_
              | refine Jl.yd (Y.lenT (s := s) (n := (s.size : Int)) rfl rfl Tryd.underlying9 rfl) rfl rfl rfl ?_
              | refine Jl.yd (Y.byteT (s := s) 0 rfl rfl rfl Tryd.underlying9 rfl (by omega) hb0) rfl rfl rfl ?_
              | refine Jl.yd (Y.negN (val s.data.toList) rfl rfl hneg (by omega)) rfl rfl rfl ?_
              | refine Jl.call1 (v := .bool true) rfl rfl rfl rfl en19 rfl (fun w hW => by with_reducible exact cents_ (val s.data.toList) true hrange w) ?_
              | refine Jl.call1 (v := .string (cT (val s.data.toList))) rfl rfl rfl rfl en20 rfl (fun w hW => by with_reducible exact Txt.sText_ (val s.data.toList) (by omega) w) ?_
              | refine Jl.yd (Y.neSV rfl rfl rfl hsame) rfl rfl rfl ?_
              | refine Jl.splitG rfl rfl (fun h => ?_) (fun h => ?_))
            | (apply gateE; first
              | refine Jl.nil (Ej.go ?_ (fun _ _ h => h))
              | (refine Jl.nil (Ej.back (fun _ _ h => h) (by repeat (first | exact .refl | apply DropTo.tail)) ?_); repeat (first | exact trivial | refine ⟨rfl, ?_⟩)))
            | (apply gateC; first
              | refine Cj.block rfl ?_
              | refine Cj.ret rfl (Ej.out2 (P := Tryd.prog) (fn := Tryd.f17) (R := Rr) (fun _ _ h => h) rfl rfl rfl (fun w' hW => ⟨by rw [hpc], hW.below⟩))
              | refine Cj.condF rfl rfl (Cj.skip rfl (Ej.go ?_ (fun _ _ h => h)))
              | (refine Cj.condF rfl rfl (Cj.skip rfl (Ej.back (fun _ _ h => h) (by repeat (first | exact .refl | apply DropTo.tail)) ?_)); repeat (first | exact trivial | refine ⟨rfl, ?_⟩))
              | refine Cj.condF rfl rfl ?_
              | refine Cj.condT rfl rfl ?_
              | refine Cj.exit rfl (Ej.go ?_ (fun _ _ h => h))
              | refine Cj.cond rfl rfl (fun h => ?_) (fun h => ?_)
              | refine Cj.skip rfl (Ej.go ?_ (fun _ _ h => h))
              | (refine Cj.skip rfl (Ej.back (fun _ _ h => h) (by repeat (first | exact .refl | apply DropTo.tail)) ?_); repeat (first | exact trivial | refine ⟨rfl, ?_⟩))
              | refine Cj.seq rfl ?_
              | refine Cj.region rfl ?_))
          · have hpc := PC.pc_not (s := s) (fun g => hs g.2)
            have hsame : (!((cT (val s.data.toList)).toList == s.toList)) = true := by rw [show ((cT (val s.data.toList)).toList == s.toList) = false from Bool.eq_false_iff.2 hs]; rfl
            repeat (first
            | (apply gateO; first
              | refine Jl.yd (Y.mv rfl rfl) rfl rfl rfl ?_
              | refine Jl.yd (Y.asg rfl rfl) rfl rfl rfl ?_
              | refine Jl.yd (Y.ext rfl rfl rfl) rfl rfl rfl ?_
              | refine Jl.yd (Y.pickT rfl rfl rfl) rfl rfl rfl ?_
              | refine Jl.yd (Y.pickF rfl rfl rfl) rfl rfl rfl ?_
              | refine Jl.off rfl rfl rfl ?_
              | refine Jl.yd (Y.cmpF rfl rfl rfl rfl (by omega)) rfl rfl rfl ?_
              | refine Jl.yd (Y.cmpT rfl rfl rfl rfl (by omega)) rfl rfl rfl ?_
              | refine Jl.yd (Y.neqB rfl rfl rfl Tryd.underlying4) rfl rfl rfl ?_
              | refine Jl.yd (Y.cmp rfl rfl rfl rfl) rfl rfl rfl ?_
              | refine Jl.yd (Y.not rfl rfl) rfl rfl rfl ?_
              | refine Jl.yd (Y.arithN rfl rfl rfl rfl (by omega)) rfl rfl rfl ?_
              | refine Jl.yd (Y.arith64 rfl rfl rfl rfl) rfl rfl rfl ?_
              | refine Jl.yd (Y.lenT (s := s) (n := (s.size : Int)) rfl rfl Tryd.underlying9 rfl) rfl rfl rfl ?_
              | refine Jl.yd (Y.byteT (s := s) 0 rfl rfl rfl Tryd.underlying9 rfl (by omega) hb0) rfl rfl rfl ?_
              | refine Jl.yd (Y.negN (val s.data.toList) rfl rfl hneg (by omega)) rfl rfl rfl ?_
              | refine Jl.call1 (v := .bool true) rfl rfl rfl rfl en19 rfl (fun w hW => by with_reducible exact cents_ (val s.data.toList) true hrange w) ?_
              | refine Jl.call1 (v := .string (cT (val s.data.toList))) rfl rfl rfl rfl en20 rfl (fun w hW => by with_reducible exact Txt.sText_ (val s.data.toList) (by omega) w) ?_
              | refine Jl.yd (Y.neSV rfl rfl rfl hsame) rfl rfl rfl ?_
              | refine Jl.splitG rfl rfl (fun h => ?_) (fun h => ?_))
            | (apply gateE; first
              | refine Jl.nil (Ej.go ?_ (fun _ _ h => h))
              | (refine Jl.nil (Ej.back (fun _ _ h => h) (by repeat (first | exact .refl | apply DropTo.tail)) ?_); repeat (first | exact trivial | refine ⟨rfl, ?_⟩)))
            | (apply gateC; first
              | refine Cj.block rfl ?_
              | refine Cj.ret rfl (Ej.out2 (P := Tryd.prog) (fn := Tryd.f17) (R := Rr) (fun _ _ h => h) rfl rfl rfl (fun w' hW => ⟨by rw [hpc], hW.below⟩))
              | refine Cj.condF rfl rfl (Cj.skip rfl (Ej.go ?_ (fun _ _ h => h)))
              | (refine Cj.condF rfl rfl (Cj.skip rfl (Ej.back (fun _ _ h => h) (by repeat (first | exact .refl | apply DropTo.tail)) ?_)); repeat (first | exact trivial | refine ⟨rfl, ?_⟩))
              | refine Cj.condF rfl rfl ?_
              | refine Cj.condT rfl rfl ?_
              | refine Cj.exit rfl (Ej.go ?_ (fun _ _ h => h))
              | refine Cj.cond rfl rfl (fun h => ?_) (fun h => ?_)
              | refine Cj.skip rfl (Ej.go ?_ (fun _ _ h => h))
              | (refine Cj.skip rfl (Ej.back (fun _ _ h => h) (by repeat (first | exact .refl | apply DropTo.tail)) ?_); repeat (first | exact trivial | refine ⟨rfl, ?_⟩))
              | refine Cj.seq rfl ?_
              | refine Cj.region rfl ?_))
        · have hrange : false = decide (-100000000 ≤ val s.data.toList ∧ val s.data.toList ≤ 100000000) := (decide_eq_false hr).symm
          have hpc := PC.pc_not (s := s) (fun g => hr g.1)
          repeat (first
            | (apply gateO; first
              | refine Jl.yd (Y.mv rfl rfl) rfl rfl rfl ?_
              | refine Jl.yd (Y.asg rfl rfl) rfl rfl rfl ?_
              | refine Jl.yd (Y.ext rfl rfl rfl) rfl rfl rfl ?_
              | refine Jl.yd (Y.pickT rfl rfl rfl) rfl rfl rfl ?_
              | refine Jl.yd (Y.pickF rfl rfl rfl) rfl rfl rfl ?_
              | refine Jl.off rfl rfl rfl ?_
              | refine Jl.yd (Y.cmpF rfl rfl rfl rfl (by omega)) rfl rfl rfl ?_
              | refine Jl.yd (Y.cmpT rfl rfl rfl rfl (by omega)) rfl rfl rfl ?_
              | refine Jl.yd (Y.neqB rfl rfl rfl Tryd.underlying4) rfl rfl rfl ?_
              | refine Jl.yd (Y.cmp rfl rfl rfl rfl) rfl rfl rfl ?_
              | refine Jl.yd (Y.not rfl rfl) rfl rfl rfl ?_
              | refine Jl.yd (Y.arithN rfl rfl rfl rfl (by omega)) rfl rfl rfl ?_
              | refine Jl.yd (Y.arith64 rfl rfl rfl rfl) rfl rfl rfl ?_
              | refine Jl.yd (Y.lenT (s := s) (n := (s.size : Int)) rfl rfl Tryd.underlying9 rfl) rfl rfl rfl ?_
              | refine Jl.yd (Y.byteT (s := s) 0 rfl rfl rfl Tryd.underlying9 rfl (by omega) hb0) rfl rfl rfl ?_
              | refine Jl.yd (Y.negN (val s.data.toList) rfl rfl hneg (by omega)) rfl rfl rfl ?_
              | refine Jl.call1 (v := .bool false) rfl rfl rfl rfl en19 rfl (fun w hW => by with_reducible exact cents_ (val s.data.toList) false hrange w) ?_
              | refine Jl.call1 (v := .string (cT (val s.data.toList))) rfl rfl rfl rfl en20 rfl (fun w hW => by with_reducible exact Txt.sText_ (val s.data.toList) (by omega) w) ?_
              | refine Jl.yd (Y.neSV rfl rfl rfl hsame) rfl rfl rfl ?_
              | refine Jl.splitG rfl rfl (fun h => ?_) (fun h => ?_))
            | (apply gateE; first
              | refine Jl.nil (Ej.go ?_ (fun _ _ h => h))
              | (refine Jl.nil (Ej.back (fun _ _ h => h) (by repeat (first | exact .refl | apply DropTo.tail)) ?_); repeat (first | exact trivial | refine ⟨rfl, ?_⟩)))
            | (apply gateC; first
              | refine Cj.block rfl ?_
              | refine Cj.ret rfl (Ej.out2 (P := Tryd.prog) (fn := Tryd.f17) (R := Rr) (fun _ _ h => h) rfl rfl rfl (fun w' hW => ⟨by rw [hpc], hW.below⟩))
              | refine Cj.condF rfl rfl (Cj.skip rfl (Ej.go ?_ (fun _ _ h => h)))
              | (refine Cj.condF rfl rfl (Cj.skip rfl (Ej.back (fun _ _ h => h) (by repeat (first | exact .refl | apply DropTo.tail)) ?_)); repeat (first | exact trivial | refine ⟨rfl, ?_⟩))
              | refine Cj.condF rfl rfl ?_
              | refine Cj.condT rfl rfl ?_
              | refine Cj.exit rfl (Ej.go ?_ (fun _ _ h => h))
              | refine Cj.cond rfl rfl (fun h => ?_) (fun h => ?_)
              | refine Cj.skip rfl (Ej.go ?_ (fun _ _ h => h))
              | (refine Cj.skip rfl (Ej.back (fun _ _ h => h) (by repeat (first | exact .refl | apply DropTo.tail)) ?_); repeat (first | exact trivial | refine ⟨rfl, ?_⟩))
              | refine Cj.seq rfl ?_
              | refine Cj.region rfl ?_))
      · obtain ⟨b, hb0⟩ : ∃ b, s.data.toList[0]? = some b := ⟨_, List.getElem?_eq_getElem (by rw [size_l]; omega)⟩
        have hng := neg_get hb0
        cases hn : neg s.data.toList with
        | true =>
          have h45 := hng.1 hn
          have hv := val_at _ _ hn
          rw [if_pos rfl] at hv
          have hneg := hv.symm
          have hvb : -1000000000000 ≤ val s.data.toList ∧ val s.data.toList ≤ 1000000000000 := by omega
          by_cases hr : -100000000 ≤ val s.data.toList ∧ val s.data.toList ≤ 100000000
          · have hrange : true = decide (-100000000 ≤ val s.data.toList ∧ val s.data.toList ≤ 100000000) := (decide_eq_true hr).symm
            by_cases hs : same s = true
            · have hpc := PC.pc_yes hr hs
              have hsame : (!((cT (val s.data.toList)).toList == s.toList)) = false := by rw [show ((cT (val s.data.toList)).toList == s.toList) = true from hs]; rfl
              repeat (first
              | (apply gateO; first
                | refine Jl.yd (Y.mv rfl rfl) rfl rfl rfl ?_
                | refine Jl.yd (Y.asg rfl rfl) rfl rfl rfl ?_
                | refine Jl.yd (Y.ext rfl rfl rfl) rfl rfl rfl ?_
                | refine Jl.yd (Y.pickT rfl rfl rfl) rfl rfl rfl ?_
                | refine Jl.yd (Y.pickF rfl rfl rfl) rfl rfl rfl ?_
                | refine Jl.off rfl rfl rfl ?_
                | refine Jl.yd (Y.cmpF rfl rfl rfl rfl (by omega)) rfl rfl rfl ?_
                | refine Jl.yd (Y.cmpT rfl rfl rfl rfl (by omega)) rfl rfl rfl ?_
                | refine Jl.yd (Y.neqB rfl rfl rfl Tryd.underlying4) rfl rfl rfl ?_
                | refine Jl.yd (Y.cmp rfl rfl rfl rfl) rfl rfl rfl ?_
                | refine Jl.yd (Y.not rfl rfl) rfl rfl rfl ?_
                | refine Jl.yd (Y.arithN rfl rfl rfl rfl (by omega)) rfl rfl rfl ?_
                | refine Jl.yd (Y.arith64 rfl rfl rfl rfl) rfl rfl rfl ?_
                | refine Jl.yd (Y.lenT (s := s) (n := (s.size : Int)) rfl rfl Tryd.underlying9 rfl) rfl rfl rfl ?_
                | refine Jl.yd (Y.byteT (s := s) 0 rfl rfl rfl Tryd.underlying9 rfl (by omega) hb0) rfl rfl rfl ?_
                | refine Jl.yd (Y.negN (val s.data.toList) rfl rfl hneg (by omega)) rfl rfl rfl ?_
                | refine Jl.call1 (v := .bool true) rfl rfl rfl rfl en19 rfl (fun w hW => by with_reducible exact cents_ (val s.data.toList) true hrange w) ?_
                | refine Jl.call1 (v := .string (cT (val s.data.toList))) rfl rfl rfl rfl en20 rfl (fun w hW => by with_reducible exact Txt.sText_ (val s.data.toList) (by omega) w) ?_
                | refine Jl.yd (Y.neSV rfl rfl rfl hsame) rfl rfl rfl ?_
                | refine Jl.splitG rfl rfl (fun h => ?_) (fun h => ?_))
              | (apply gateE; first
                | refine Jl.nil (Ej.go ?_ (fun _ _ h => h))
                | (refine Jl.nil (Ej.back (fun _ _ h => h) (by repeat (first | exact .refl | apply DropTo.tail)) ?_); repeat (first | exact trivial | refine ⟨rfl, ?_⟩)))
              | (apply gateC; first
                | refine Cj.block rfl ?_
                | refine Cj.ret rfl (Ej.out2 (P := Tryd.prog) (fn := Tryd.f17) (R := Rr) (fun _ _ h => h) rfl rfl rfl (fun w' hW => ⟨by rw [hpc], hW.below⟩))
                | refine Cj.condF rfl rfl (Cj.skip rfl (Ej.go ?_ (fun _ _ h => h)))
                | (refine Cj.condF rfl rfl (Cj.skip rfl (Ej.back (fun _ _ h => h) (by repeat (first | exact .refl | apply DropTo.tail)) ?_)); repeat (first | exact trivial | refine ⟨rfl, ?_⟩))
                | refine Cj.condF rfl rfl ?_
                | refine Cj.condT rfl rfl ?_
                | refine Cj.exit rfl (Ej.go ?_ (fun _ _ h => h))
                | refine Cj.cond rfl rfl (fun h => ?_) (fun h => ?_)
                | refine Cj.skip rfl (Ej.go ?_ (fun _ _ h => h))
                | (refine Cj.skip rfl (Ej.back (fun _ _ h => h) (by repeat (first | exact .refl | apply DropTo.tail)) ?_); repeat (first | exact trivial | refine ⟨rfl, ?_⟩))
                | refine Cj.seq rfl ?_
                | refine Cj.region rfl ?_))
            · have hpc := PC.pc_not (s := s) (fun g => hs g.2)
              have hsame : (!((cT (val s.data.toList)).toList == s.toList)) = true := by rw [show ((cT (val s.data.toList)).toList == s.toList) = false from Bool.eq_false_iff.2 hs]; rfl
              repeat (first
              | (apply gateO; first
                | refine Jl.yd (Y.mv rfl rfl) rfl rfl rfl ?_
                | refine Jl.yd (Y.asg rfl rfl) rfl rfl rfl ?_
                | refine Jl.yd (Y.ext rfl rfl rfl) rfl rfl rfl ?_
                | refine Jl.yd (Y.pickT rfl rfl rfl) rfl rfl rfl ?_
                | refine Jl.yd (Y.pickF rfl rfl rfl) rfl rfl rfl ?_
                | refine Jl.off rfl rfl rfl ?_
                | refine Jl.yd (Y.cmpF rfl rfl rfl rfl (by omega)) rfl rfl rfl ?_
                | refine Jl.yd (Y.cmpT rfl rfl rfl rfl (by omega)) rfl rfl rfl ?_
                | refine Jl.yd (Y.neqB rfl rfl rfl Tryd.underlying4) rfl rfl rfl ?_
                | refine Jl.yd (Y.cmp rfl rfl rfl rfl) rfl rfl rfl ?_
                | refine Jl.yd (Y.not rfl rfl) rfl rfl rfl ?_
                | refine Jl.yd (Y.arithN rfl rfl rfl rfl (by omega)) rfl rfl rfl ?_
                | refine Jl.yd (Y.arith64 rfl rfl rfl rfl) rfl rfl rfl ?_
                | refine Jl.yd (Y.lenT (s := s) (n := (s.size : Int)) rfl rfl Tryd.underlying9 rfl) rfl rfl rfl ?_
                | refine Jl.yd (Y.byteT (s := s) 0 rfl rfl rfl Tryd.underlying9 rfl (by omega) hb0) rfl rfl rfl ?_
                | refine Jl.yd (Y.negN (val s.data.toList) rfl rfl hneg (by omega)) rfl rfl rfl ?_
                | refine Jl.call1 (v := .bool true) rfl rfl rfl rfl en19 rfl (fun w hW => by with_reducible exact cents_ (val s.data.toList) true hrange w) ?_
                | refine Jl.call1 (v := .string (cT (val s.data.toList))) rfl rfl rfl rfl en20 rfl (fun w hW => by with_reducible exact Txt.sText_ (val s.data.toList) (by omega) w) ?_
                | refine Jl.yd (Y.neSV rfl rfl rfl hsame) rfl rfl rfl ?_
                | refine Jl.splitG rfl rfl (fun h => ?_) (fun h => ?_))
              | (apply gateE; first
                | refine Jl.nil (Ej.go ?_ (fun _ _ h => h))
                | (refine Jl.nil (Ej.back (fun _ _ h => h) (by repeat (first | exact .refl | apply DropTo.tail)) ?_); repeat (first | exact trivial | refine ⟨rfl, ?_⟩)))
              | (apply gateC; first
                | refine Cj.block rfl ?_
                | refine Cj.ret rfl (Ej.out2 (P := Tryd.prog) (fn := Tryd.f17) (R := Rr) (fun _ _ h => h) rfl rfl rfl (fun w' hW => ⟨by rw [hpc], hW.below⟩))
                | refine Cj.condF rfl rfl (Cj.skip rfl (Ej.go ?_ (fun _ _ h => h)))
                | (refine Cj.condF rfl rfl (Cj.skip rfl (Ej.back (fun _ _ h => h) (by repeat (first | exact .refl | apply DropTo.tail)) ?_)); repeat (first | exact trivial | refine ⟨rfl, ?_⟩))
                | refine Cj.condF rfl rfl ?_
                | refine Cj.condT rfl rfl ?_
                | refine Cj.exit rfl (Ej.go ?_ (fun _ _ h => h))
                | refine Cj.cond rfl rfl (fun h => ?_) (fun h => ?_)
                | refine Cj.skip rfl (Ej.go ?_ (fun _ _ h => h))
                | (refine Cj.skip rfl (Ej.back (fun _ _ h => h) (by repeat (first | exact .refl | apply DropTo.tail)) ?_); repeat (first | exact trivial | refine ⟨rfl, ?_⟩))
                | refine Cj.seq rfl ?_
                | refine Cj.region rfl ?_))
          · have hrange : false = decide (-100000000 ≤ val s.data.toList ∧ val s.data.toList ≤ 100000000) := (decide_eq_false hr).symm
            have hpc := PC.pc_not (s := s) (fun g => hr g.1)
            repeat (first
              | (apply gateO; first
                | refine Jl.yd (Y.mv rfl rfl) rfl rfl rfl ?_
                | refine Jl.yd (Y.asg rfl rfl) rfl rfl rfl ?_
                | refine Jl.yd (Y.ext rfl rfl rfl) rfl rfl rfl ?_
                | refine Jl.yd (Y.pickT rfl rfl rfl) rfl rfl rfl ?_
                | refine Jl.yd (Y.pickF rfl rfl rfl) rfl rfl rfl ?_
                | refine Jl.off rfl rfl rfl ?_
                | refine Jl.yd (Y.cmpF rfl rfl rfl rfl (by omega)) rfl rfl rfl ?_
                | refine Jl.yd (Y.cmpT rfl rfl rfl rfl (by omega)) rfl rfl rfl ?_
                | refine Jl.yd (Y.neqB rfl rfl rfl Tryd.underlying4) rfl rfl rfl ?_
                | refine Jl.yd (Y.cmp rfl rfl rfl rfl) rfl rfl rfl ?_
                | refine Jl.yd (Y.not rfl rfl) rfl rfl rfl ?_
                | refine Jl.yd (Y.arithN rfl rfl rfl rfl (by omega)) rfl rfl rfl ?_
                | refine Jl.yd (Y.arith64 rfl rfl rfl rfl) rfl rfl rfl ?_
                | refine Jl.yd (Y.lenT (s := s) (n := (s.size : Int)) rfl rfl Tryd.underlying9 rfl) rfl rfl rfl ?_
                | refine Jl.yd (Y.byteT (s := s) 0 rfl rfl rfl Tryd.underlying9 rfl (by omega) hb0) rfl rfl rfl ?_
                | refine Jl.yd (Y.negN (val s.data.toList) rfl rfl hneg (by omega)) rfl rfl rfl ?_
                | refine Jl.call1 (v := .bool false) rfl rfl rfl rfl en19 rfl (fun w hW => by with_reducible exact cents_ (val s.data.toList) false hrange w) ?_
                | refine Jl.call1 (v := .string (cT (val s.data.toList))) rfl rfl rfl rfl en20 rfl (fun w hW => by with_reducible exact Txt.sText_ (val s.data.toList) (by omega) w) ?_
                | refine Jl.yd (Y.neSV rfl rfl rfl hsame) rfl rfl rfl ?_
                | refine Jl.splitG rfl rfl (fun h => ?_) (fun h => ?_))
              | (apply gateE; first
                | refine Jl.nil (Ej.go ?_ (fun _ _ h => h))
                | (refine Jl.nil (Ej.back (fun _ _ h => h) (by repeat (first | exact .refl | apply DropTo.tail)) ?_); repeat (first | exact trivial | refine ⟨rfl, ?_⟩)))
              | (apply gateC; first
                | refine Cj.block rfl ?_
                | refine Cj.ret rfl (Ej.out2 (P := Tryd.prog) (fn := Tryd.f17) (R := Rr) (fun _ _ h => h) rfl rfl rfl (fun w' hW => ⟨by rw [hpc], hW.below⟩))
                | refine Cj.condF rfl rfl (Cj.skip rfl (Ej.go ?_ (fun _ _ h => h)))
                | (refine Cj.condF rfl rfl (Cj.skip rfl (Ej.back (fun _ _ h => h) (by repeat (first | exact .refl | apply DropTo.tail)) ?_)); repeat (first | exact trivial | refine ⟨rfl, ?_⟩))
                | refine Cj.condF rfl rfl ?_
                | refine Cj.condT rfl rfl ?_
                | refine Cj.exit rfl (Ej.go ?_ (fun _ _ h => h))
                | refine Cj.cond rfl rfl (fun h => ?_) (fun h => ?_)
                | refine Cj.skip rfl (Ej.go ?_ (fun _ _ h => h))
                | (refine Cj.skip rfl (Ej.back (fun _ _ h => h) (by repeat (first | exact .refl | apply DropTo.tail)) ?_); repeat (first | exact trivial | refine ⟨rfl, ?_⟩))
                | refine Cj.seq rfl ?_
                | refine Cj.region rfl ?_))
        | false =>
          have h45 : ¬ (b.toNat : Int) = 45 := fun h => by have := hng.2 h; rw [hn] at this; cases this
          have hv := val_at _ _ hn
          rw [if_neg (by simp)] at hv
          rw [← hv]
          have hvb : -1000000000000 ≤ val s.data.toList ∧ val s.data.toList ≤ 1000000000000 := by omega
          by_cases hr : -100000000 ≤ val s.data.toList ∧ val s.data.toList ≤ 100000000
          · have hrange : true = decide (-100000000 ≤ val s.data.toList ∧ val s.data.toList ≤ 100000000) := (decide_eq_true hr).symm
            by_cases hs : same s = true
            · have hpc := PC.pc_yes hr hs
              have hsame : (!((cT (val s.data.toList)).toList == s.toList)) = false := by rw [show ((cT (val s.data.toList)).toList == s.toList) = true from hs]; rfl
              repeat (first
              | (apply gateO; first
                | refine Jl.yd (Y.mv rfl rfl) rfl rfl rfl ?_
                | refine Jl.yd (Y.asg rfl rfl) rfl rfl rfl ?_
                | refine Jl.yd (Y.ext rfl rfl rfl) rfl rfl rfl ?_
                | refine Jl.yd (Y.pickT rfl rfl rfl) rfl rfl rfl ?_
                | refine Jl.yd (Y.pickF rfl rfl rfl) rfl rfl rfl ?_
                | refine Jl.off rfl rfl rfl ?_
                | refine Jl.yd (Y.cmpF rfl rfl rfl rfl (by omega)) rfl rfl rfl ?_
                | refine Jl.yd (Y.cmpT rfl rfl rfl rfl (by omega)) rfl rfl rfl ?_
                | refine Jl.yd (Y.neqB rfl rfl rfl Tryd.underlying4) rfl rfl rfl ?_
                | refine Jl.yd (Y.cmp rfl rfl rfl rfl) rfl rfl rfl ?_
                | refine Jl.yd (Y.not rfl rfl) rfl rfl rfl ?_
                | refine Jl.yd (Y.arithN rfl rfl rfl rfl (by omega)) rfl rfl rfl ?_
                | refine Jl.yd (Y.arith64 rfl rfl rfl rfl) rfl rfl rfl ?_
                | refine Jl.yd (Y.lenT (s := s) (n := (s.size : Int)) rfl rfl Tryd.underlying9 rfl) rfl rfl rfl ?_
                | refine Jl.yd (Y.byteT (s := s) 0 rfl rfl rfl Tryd.underlying9 rfl (by omega) hb0) rfl rfl rfl ?_
                | refine Jl.yd (Y.negN (val s.data.toList) rfl rfl hneg (by omega)) rfl rfl rfl ?_
                | refine Jl.call1 (v := .bool true) rfl rfl rfl rfl en19 rfl (fun w hW => by with_reducible exact cents_ (val s.data.toList) true hrange w) ?_
                | refine Jl.call1 (v := .string (cT (val s.data.toList))) rfl rfl rfl rfl en20 rfl (fun w hW => by with_reducible exact Txt.sText_ (val s.data.toList) (by omega) w) ?_
                | refine Jl.yd (Y.neSV rfl rfl rfl hsame) rfl rfl rfl ?_
                | refine Jl.splitG rfl rfl (fun h => ?_) (fun h => ?_))
              | (apply gateE; first
                | refine Jl.nil (Ej.go ?_ (fun _ _ h => h))
                | (refine Jl.nil (Ej.back (fun _ _ h => h) (by repeat (first | exact .refl | apply DropTo.tail)) ?_); repeat (first | exact trivial | refine ⟨rfl, ?_⟩)))
              | (apply gateC; first
                | refine Cj.block rfl ?_
                | refine Cj.ret rfl (Ej.out2 (P := Tryd.prog) (fn := Tryd.f17) (R := Rr) (fun _ _ h => h) rfl rfl rfl (fun w' hW => ⟨by rw [hpc], hW.below⟩))
                | refine Cj.condF rfl rfl (Cj.skip rfl (Ej.go ?_ (fun _ _ h => h)))
                | (refine Cj.condF rfl rfl (Cj.skip rfl (Ej.back (fun _ _ h => h) (by repeat (first | exact .refl | apply DropTo.tail)) ?_)); repeat (first | exact trivial | refine ⟨rfl, ?_⟩))
                | refine Cj.condF rfl rfl ?_
                | refine Cj.condT rfl rfl ?_
                | refine Cj.exit rfl (Ej.go ?_ (fun _ _ h => h))
                | refine Cj.cond rfl rfl (fun h => ?_) (fun h => ?_)
                | refine Cj.skip rfl (Ej.go ?_ (fun _ _ h => h))
                | (refine Cj.skip rfl (Ej.back (fun _ _ h => h) (by repeat (first | exact .refl | apply DropTo.tail)) ?_); repeat (first | exact trivial | refine ⟨rfl, ?_⟩))
                | refine Cj.seq rfl ?_
                | refine Cj.region rfl ?_))
            · have hpc := PC.pc_not (s := s) (fun g => hs g.2)
              have hsame : (!((cT (val s.data.toList)).toList == s.toList)) = true := by rw [show ((cT (val s.data.toList)).toList == s.toList) = false from Bool.eq_false_iff.2 hs]; rfl
              repeat (first
              | (apply gateO; first
                | refine Jl.yd (Y.mv rfl rfl) rfl rfl rfl ?_
                | refine Jl.yd (Y.asg rfl rfl) rfl rfl rfl ?_
                | refine Jl.yd (Y.ext rfl rfl rfl) rfl rfl rfl ?_
                | refine Jl.yd (Y.pickT rfl rfl rfl) rfl rfl rfl ?_
                | refine Jl.yd (Y.pickF rfl rfl rfl) rfl rfl rfl ?_
                | refine Jl.off rfl rfl rfl ?_
                | refine Jl.yd (Y.cmpF rfl rfl rfl rfl (by omega)) rfl rfl rfl ?_
                | refine Jl.yd (Y.cmpT rfl rfl rfl rfl (by omega)) rfl rfl rfl ?_
                | refine Jl.yd (Y.neqB rfl rfl rfl Tryd.underlying4) rfl rfl rfl ?_
                | refine Jl.yd (Y.cmp rfl rfl rfl rfl) rfl rfl rfl ?_
                | refine Jl.yd (Y.not rfl rfl) rfl rfl rfl ?_
                | refine Jl.yd (Y.arithN rfl rfl rfl rfl (by omega)) rfl rfl rfl ?_
                | refine Jl.yd (Y.arith64 rfl rfl rfl rfl) rfl rfl rfl ?_
                | refine Jl.yd (Y.lenT (s := s) (n := (s.size : Int)) rfl rfl Tryd.underlying9 rfl) rfl rfl rfl ?_
                | refine Jl.yd (Y.byteT (s := s) 0 rfl rfl rfl Tryd.underlying9 rfl (by omega) hb0) rfl rfl rfl ?_
                | refine Jl.yd (Y.negN (val s.data.toList) rfl rfl hneg (by omega)) rfl rfl rfl ?_
                | refine Jl.call1 (v := .bool true) rfl rfl rfl rfl en19 rfl (fun w hW => by with_reducible exact cents_ (val s.data.toList) true hrange w) ?_
                | refine Jl.call1 (v := .string (cT (val s.data.toList))) rfl rfl rfl rfl en20 rfl (fun w hW => by with_reducible exact Txt.sText_ (val s.data.toList) (by omega) w) ?_
                | refine Jl.yd (Y.neSV rfl rfl rfl hsame) rfl rfl rfl ?_
                | refine Jl.splitG rfl rfl (fun h => ?_) (fun h => ?_))
              | (apply gateE; first
                | refine Jl.nil (Ej.go ?_ (fun _ _ h => h))
                | (refine Jl.nil (Ej.back (fun _ _ h => h) (by repeat (first | exact .refl | apply DropTo.tail)) ?_); repeat (first | exact trivial | refine ⟨rfl, ?_⟩)))
              | (apply gateC; first
                | refine Cj.block rfl ?_
                | refine Cj.ret rfl (Ej.out2 (P := Tryd.prog) (fn := Tryd.f17) (R := Rr) (fun _ _ h => h) rfl rfl rfl (fun w' hW => ⟨by rw [hpc], hW.below⟩))
                | refine Cj.condF rfl rfl (Cj.skip rfl (Ej.go ?_ (fun _ _ h => h)))
                | (refine Cj.condF rfl rfl (Cj.skip rfl (Ej.back (fun _ _ h => h) (by repeat (first | exact .refl | apply DropTo.tail)) ?_)); repeat (first | exact trivial | refine ⟨rfl, ?_⟩))
                | refine Cj.condF rfl rfl ?_
                | refine Cj.condT rfl rfl ?_
                | refine Cj.exit rfl (Ej.go ?_ (fun _ _ h => h))
                | refine Cj.cond rfl rfl (fun h => ?_) (fun h => ?_)
                | refine Cj.skip rfl (Ej.go ?_ (fun _ _ h => h))
                | (refine Cj.skip rfl (Ej.back (fun _ _ h => h) (by repeat (first | exact .refl | apply DropTo.tail)) ?_); repeat (first | exact trivial | refine ⟨rfl, ?_⟩))
                | refine Cj.seq rfl ?_
                | refine Cj.region rfl ?_))
          · have hrange : false = decide (-100000000 ≤ val s.data.toList ∧ val s.data.toList ≤ 100000000) := (decide_eq_false hr).symm
            have hpc := PC.pc_not (s := s) (fun g => hr g.1)
            repeat (first
              | (apply gateO; first
                | refine Jl.yd (Y.mv rfl rfl) rfl rfl rfl ?_
                | refine Jl.yd (Y.asg rfl rfl) rfl rfl rfl ?_
                | refine Jl.yd (Y.ext rfl rfl rfl) rfl rfl rfl ?_
                | refine Jl.yd (Y.pickT rfl rfl rfl) rfl rfl rfl ?_
                | refine Jl.yd (Y.pickF rfl rfl rfl) rfl rfl rfl ?_
                | refine Jl.off rfl rfl rfl ?_
                | refine Jl.yd (Y.cmpF rfl rfl rfl rfl (by omega)) rfl rfl rfl ?_
                | refine Jl.yd (Y.cmpT rfl rfl rfl rfl (by omega)) rfl rfl rfl ?_
                | refine Jl.yd (Y.neqB rfl rfl rfl Tryd.underlying4) rfl rfl rfl ?_
                | refine Jl.yd (Y.cmp rfl rfl rfl rfl) rfl rfl rfl ?_
                | refine Jl.yd (Y.not rfl rfl) rfl rfl rfl ?_
                | refine Jl.yd (Y.arithN rfl rfl rfl rfl (by omega)) rfl rfl rfl ?_
                | refine Jl.yd (Y.arith64 rfl rfl rfl rfl) rfl rfl rfl ?_
                | refine Jl.yd (Y.lenT (s := s) (n := (s.size : Int)) rfl rfl Tryd.underlying9 rfl) rfl rfl rfl ?_
                | refine Jl.yd (Y.byteT (s := s) 0 rfl rfl rfl Tryd.underlying9 rfl (by omega) hb0) rfl rfl rfl ?_
                | refine Jl.yd (Y.negN (val s.data.toList) rfl rfl hneg (by omega)) rfl rfl rfl ?_
                | refine Jl.call1 (v := .bool false) rfl rfl rfl rfl en19 rfl (fun w hW => by with_reducible exact cents_ (val s.data.toList) false hrange w) ?_
                | refine Jl.call1 (v := .string (cT (val s.data.toList))) rfl rfl rfl rfl en20 rfl (fun w hW => by with_reducible exact Txt.sText_ (val s.data.toList) (by omega) w) ?_
                | refine Jl.yd (Y.neSV rfl rfl rfl hsame) rfl rfl rfl ?_
                | refine Jl.splitG rfl rfl (fun h => ?_) (fun h => ?_))
              | (apply gateE; first
                | refine Jl.nil (Ej.go ?_ (fun _ _ h => h))
                | (refine Jl.nil (Ej.back (fun _ _ h => h) (by repeat (first | exact .refl | apply DropTo.tail)) ?_); repeat (first | exact trivial | refine ⟨rfl, ?_⟩)))
              | (apply gateC; first
                | refine Cj.block rfl ?_
                | refine Cj.ret rfl (Ej.out2 (P := Tryd.prog) (fn := Tryd.f17) (R := Rr) (fun _ _ h => h) rfl rfl rfl (fun w' hW => ⟨by rw [hpc], hW.below⟩))
                | refine Cj.condF rfl rfl (Cj.skip rfl (Ej.go ?_ (fun _ _ h => h)))
                | (refine Cj.condF rfl rfl (Cj.skip rfl (Ej.back (fun _ _ h => h) (by repeat (first | exact .refl | apply DropTo.tail)) ?_)); repeat (first | exact trivial | refine ⟨rfl, ?_⟩))
                | refine Cj.condF rfl rfl ?_
                | refine Cj.condT rfl rfl ?_
                | refine Cj.exit rfl (Ej.go ?_ (fun _ _ h => h))
                | refine Cj.cond rfl rfl (fun h => ?_) (fun h => ?_)
                | refine Cj.skip rfl (Ej.go ?_ (fun _ _ h => h))
                | (refine Cj.skip rfl (Ej.back (fun _ _ h => h) (by repeat (first | exact .refl | apply DropTo.tail)) ?_); repeat (first | exact trivial | refine ⟨rfl, ?_⟩))
                | refine Cj.seq rfl ?_
                | refine Cj.region rfl ?_))
set_option maxHeartbeats 4000000 in
/-- The program's ParseCents. -/
theorem impl18 (s : ByteArray) (hsz : s.size ≤ 1048576) (m : Int) (w : World) (htab : Lib.TabIs Tryd.prog w Txt.tabName .u64 Lib.pow10Tab) (hm : w.cell? ⟨0, 0, none⟩ = some (.int .i64 m)) : Calls Tryd.prog 18 #[.string s] w fun e w' => e = .returned (.tuple #[.int .i64 (pc s).1, .bool (pc s).2]) ∧ Below w.heap.size w w' := by
  let Rr : Ending → World → Prop := fun e w' => e = .returned (.tuple #[.int .i64 (pc s).1, .bool (pc s).2]) ∧ Below w.heap.size w w'
  refine enterW (args := [.string s]) [(fun W => Lib.TabIs Tryd.prog W Txt.tabName .u64 Lib.pow10Tab), (fun W : World => W.cell? ⟨0, 0, none⟩ = some (.int .i64 m))] (fun p hp W hb => by
    rcases List.mem_cons.1 hp with rfl | hp
    · exact Txt.tab_below htab hb
    · rw [List.mem_singleton.1 hp]; exact pw_cell_below hb hm) Tryd.func18 rfl rfl ?_
  show Cj Tryd.prog _ _ _ (bodyPost Tryd.prog Tryd.f18 Rr) _ _ _
  by_cases h9 : 9 < (digs s.data.toList).length
  · have hpc := PC.pc_no (s := s) (fun g => by have := (PC.good_form g).1; omega)
    repeat (first
    | (apply gateO; first
      | refine Jl.yd (Y.mv rfl rfl) rfl rfl rfl ?_
      | refine Jl.yd (Y.asg rfl rfl) rfl rfl rfl ?_
      | refine Jl.yd (Y.ext rfl rfl rfl) rfl rfl rfl ?_
      | refine Jl.yd (Y.pickT rfl rfl rfl) rfl rfl rfl ?_
      | refine Jl.yd (Y.pickF rfl rfl rfl) rfl rfl rfl ?_
      | refine Jl.off rfl rfl rfl ?_
      | refine Jl.yd (Y.cmpF rfl rfl rfl rfl (by omega)) rfl rfl rfl ?_
      | refine Jl.yd (Y.cmpT rfl rfl rfl rfl (by omega)) rfl rfl rfl ?_
      | refine Jl.yd (Y.neqB rfl rfl rfl Tryd.underlying4) rfl rfl rfl ?_
      | refine Jl.yd (Y.cmp rfl rfl rfl rfl) rfl rfl rfl ?_
      | refine Jl.yd (Y.not rfl rfl) rfl rfl rfl ?_
      | refine Jl.yd (Y.arithN rfl rfl rfl rfl (by omega)) rfl rfl rfl ?_
      | refine Jl.yd (Y.arith64 rfl rfl rfl rfl) rfl rfl rfl ?_
      | refine Jl.call1 (v := .string ⟨(Lib.trimPrefix s.data.toList [45]).toArray⟩) rfl rfl rfl rfl en36 rfl (fun w hW => by with_reducible exact trimP_ s w) ?_
      | refine Jl.call1 (v := .string (D s)) rfl rfl rfl rfl en35 rfl (fun w hW => by with_reducible exact repl_ s m w hsz (hW.fact (p := (fun W : World => W.cell? ⟨0, 0, none⟩ = some (.int .i64 m))) (by repeat (first | exact memH | refine memT ?_)))) ?_
      | refine Jl.call1 (v := .string ⟨(Lib.trimS (digs s.data.toList) ten.data.toList).toArray⟩) rfl rfl rfl rfl en37 rfl (fun w hW => by with_reducible exact trim_ s w hsz) ?_
      | refine Jl.yd (Y.lenT (s := D s) (n := ((digs s.data.toList).length : Int)) rfl rfl Tryd.underlying9 (lenD_ s)) rfl rfl rfl ?_
      | refine Jl.yd (Y.neSV rfl rfl rfl htrim) rfl rfl rfl ?_
      | refine Jl.splitG rfl rfl (fun h => ?_) (fun h => ?_))
    | (apply gateE; first
      | refine Jl.nil (Ej.go ?_ (fun _ _ h => h))
      | (refine Jl.nil (Ej.back (fun _ _ h => h) (by repeat (first | exact .refl | apply DropTo.tail)) ?_); repeat (first | exact trivial | refine ⟨rfl, ?_⟩)))
    | (apply gateC; first
      | refine Cj.ret rfl (Ej.out2 (P := Tryd.prog) (fn := Tryd.f18) (R := Rr) (fun _ _ h => h) rfl rfl rfl (fun w' hW => ⟨by rw [hpc], hW.below⟩))
      | refine Cj.condF rfl rfl (Cj.skip rfl (Ej.go ?_ (fun _ _ h => h)))
      | (refine Cj.condF rfl rfl (Cj.skip rfl (Ej.back (fun _ _ h => h) (by repeat (first | exact .refl | apply DropTo.tail)) ?_)); repeat (first | exact trivial | refine ⟨rfl, ?_⟩))
      | refine Cj.condF rfl rfl ?_
      | refine Cj.condT rfl rfl ?_
      | refine Cj.exit rfl (Ej.go ?_ (fun _ _ h => h))
      | refine Cj.cond rfl rfl (fun h => ?_) (fun h => ?_)
      | refine Cj.skip rfl (Ej.go ?_ (fun _ _ h => h))
      | (refine Cj.skip rfl (Ej.back (fun _ _ h => h) (by repeat (first | exact .refl | apply DropTo.tail)) ?_); repeat (first | exact trivial | refine ⟨rfl, ?_⟩))
      | refine Cj.seq rfl ?_
      | refine Cj.region rfl ?_))
  · cases hal : (digs s.data.toList).all isD with
    | false =>
      have htrim := trim_empty s true (by rw [hal]; rfl)
      have hpc := PC.pc_no (s := s) (fun g => by have := (PC.good_form g).2; rw [hal] at this; cases this)
      repeat (first
    | (apply gateO; first
      | refine Jl.yd (Y.mv rfl rfl) rfl rfl rfl ?_
      | refine Jl.yd (Y.asg rfl rfl) rfl rfl rfl ?_
      | refine Jl.yd (Y.ext rfl rfl rfl) rfl rfl rfl ?_
      | refine Jl.yd (Y.pickT rfl rfl rfl) rfl rfl rfl ?_
      | refine Jl.yd (Y.pickF rfl rfl rfl) rfl rfl rfl ?_
      | refine Jl.off rfl rfl rfl ?_
      | refine Jl.yd (Y.cmpF rfl rfl rfl rfl (by omega)) rfl rfl rfl ?_
      | refine Jl.yd (Y.cmpT rfl rfl rfl rfl (by omega)) rfl rfl rfl ?_
      | refine Jl.yd (Y.neqB rfl rfl rfl Tryd.underlying4) rfl rfl rfl ?_
      | refine Jl.yd (Y.cmp rfl rfl rfl rfl) rfl rfl rfl ?_
      | refine Jl.yd (Y.not rfl rfl) rfl rfl rfl ?_
      | refine Jl.yd (Y.arithN rfl rfl rfl rfl (by omega)) rfl rfl rfl ?_
      | refine Jl.yd (Y.arith64 rfl rfl rfl rfl) rfl rfl rfl ?_
      | refine Jl.call1 (v := .string ⟨(Lib.trimPrefix s.data.toList [45]).toArray⟩) rfl rfl rfl rfl en36 rfl (fun w hW => by with_reducible exact trimP_ s w) ?_
      | refine Jl.call1 (v := .string (D s)) rfl rfl rfl rfl en35 rfl (fun w hW => by with_reducible exact repl_ s m w hsz (hW.fact (p := (fun W : World => W.cell? ⟨0, 0, none⟩ = some (.int .i64 m))) (by repeat (first | exact memH | refine memT ?_)))) ?_
      | refine Jl.call1 (v := .string ⟨(Lib.trimS (digs s.data.toList) ten.data.toList).toArray⟩) rfl rfl rfl rfl en37 rfl (fun w hW => by with_reducible exact trim_ s w hsz) ?_
      | refine Jl.yd (Y.lenT (s := D s) (n := ((digs s.data.toList).length : Int)) rfl rfl Tryd.underlying9 (lenD_ s)) rfl rfl rfl ?_
      | refine Jl.yd (Y.neSV rfl rfl rfl htrim) rfl rfl rfl ?_
      | refine Jl.splitG rfl rfl (fun h => ?_) (fun h => ?_))
    | (apply gateE; first
      | refine Jl.nil (Ej.go ?_ (fun _ _ h => h))
      | (refine Jl.nil (Ej.back (fun _ _ h => h) (by repeat (first | exact .refl | apply DropTo.tail)) ?_); repeat (first | exact trivial | refine ⟨rfl, ?_⟩)))
    | (apply gateC; first
      | refine Cj.ret rfl (Ej.out2 (P := Tryd.prog) (fn := Tryd.f18) (R := Rr) (fun _ _ h => h) rfl rfl rfl (fun w' hW => ⟨by rw [hpc], hW.below⟩))
      | refine Cj.condF rfl rfl (Cj.skip rfl (Ej.go ?_ (fun _ _ h => h)))
      | (refine Cj.condF rfl rfl (Cj.skip rfl (Ej.back (fun _ _ h => h) (by repeat (first | exact .refl | apply DropTo.tail)) ?_)); repeat (first | exact trivial | refine ⟨rfl, ?_⟩))
      | refine Cj.condF rfl rfl ?_
      | refine Cj.condT rfl rfl ?_
      | refine Cj.exit rfl (Ej.go ?_ (fun _ _ h => h))
      | refine Cj.cond rfl rfl (fun h => ?_) (fun h => ?_)
      | refine Cj.skip rfl (Ej.go ?_ (fun _ _ h => h))
      | (refine Cj.skip rfl (Ej.back (fun _ _ h => h) (by repeat (first | exact .refl | apply DropTo.tail)) ?_); repeat (first | exact trivial | refine ⟨rfl, ?_⟩))
      | refine Cj.seq rfl ?_
      | refine Cj.region rfl ?_))
    | true =>
      have htrim := trim_empty s false (by rw [hal]; rfl)
      repeat (first
    | (apply gateO; first
      | refine Jl.yd (Y.mv rfl rfl) rfl rfl rfl ?_
      | refine Jl.yd (Y.asg rfl rfl) rfl rfl rfl ?_
      | refine Jl.yd (Y.ext rfl rfl rfl) rfl rfl rfl ?_
      | refine Jl.yd (Y.pickT rfl rfl rfl) rfl rfl rfl ?_
      | refine Jl.yd (Y.pickF rfl rfl rfl) rfl rfl rfl ?_
      | refine Jl.off rfl rfl rfl ?_
      | refine Jl.yd (Y.cmpF rfl rfl rfl rfl (by omega)) rfl rfl rfl ?_
      | refine Jl.yd (Y.cmpT rfl rfl rfl rfl (by omega)) rfl rfl rfl ?_
      | refine Jl.yd (Y.neqB rfl rfl rfl Tryd.underlying4) rfl rfl rfl ?_
      | refine Jl.yd (Y.cmp rfl rfl rfl rfl) rfl rfl rfl ?_
      | refine Jl.yd (Y.not rfl rfl) rfl rfl rfl ?_
      | refine Jl.yd (Y.arithN rfl rfl rfl rfl (by omega)) rfl rfl rfl ?_
      | refine Jl.yd (Y.arith64 rfl rfl rfl rfl) rfl rfl rfl ?_
      | refine Jl.call1 (v := .string ⟨(Lib.trimPrefix s.data.toList [45]).toArray⟩) rfl rfl rfl rfl en36 rfl (fun w hW => by with_reducible exact trimP_ s w) ?_
      | refine Jl.call1 (v := .string (D s)) rfl rfl rfl rfl en35 rfl (fun w hW => by with_reducible exact repl_ s m w hsz (hW.fact (p := (fun W : World => W.cell? ⟨0, 0, none⟩ = some (.int .i64 m))) (by repeat (first | exact memH | refine memT ?_)))) ?_
      | refine Jl.call1 (v := .string ⟨(Lib.trimS (digs s.data.toList) ten.data.toList).toArray⟩) rfl rfl rfl rfl en37 rfl (fun w hW => by with_reducible exact trim_ s w hsz) ?_
      | refine Jl.yd (Y.lenT (s := D s) (n := ((digs s.data.toList).length : Int)) rfl rfl Tryd.underlying9 (lenD_ s)) rfl rfl rfl ?_
      | refine Jl.yd (Y.neSV rfl rfl rfl htrim) rfl rfl rfl ?_
      | refine Jl.splitG rfl rfl (fun h => ?_) (fun h => ?_))
    | (apply gateE; first
      | refine Jl.nil (Ej.go ?_ (fun _ _ h => h))
      | (refine Jl.nil (Ej.back (fun _ _ h => h) (by repeat (first | exact .refl | apply DropTo.tail)) ?_); repeat (first | exact trivial | refine ⟨rfl, ?_⟩)))
    | (apply gateC; first
      | refine Cj.block rfl ?_
      | refine Cj.condF rfl rfl (Cj.skip rfl (Ej.go ?_ (fun _ _ h => h)))
      | (refine Cj.condF rfl rfl (Cj.skip rfl (Ej.back (fun _ _ h => h) (by repeat (first | exact .refl | apply DropTo.tail)) ?_)); repeat (first | exact trivial | refine ⟨rfl, ?_⟩))
      | refine Cj.condF rfl rfl ?_
      | refine Cj.condT rfl rfl ?_
      | refine Cj.exit rfl (Ej.go ?_ (fun _ _ h => h))
      | refine Cj.cond rfl rfl (fun h => ?_) (fun h => ?_)
      | refine Cj.skip rfl (Ej.go ?_ (fun _ _ h => h))
      | (refine Cj.skip rfl (Ej.back (fun _ _ h => h) (by repeat (first | exact .refl | apply DropTo.tail)) ?_); repeat (first | exact trivial | refine ⟨rfl, ?_⟩))
      | refine Cj.seq rfl ?_
      | refine Cj.region rfl ?_))
      refine Cj.loopP (ι := Nat) (fun i => i ≤ (digs s.data.toList).length) (fun i => [(0, .string s), (4, .string (D s)), (5, .int .i64 ((num ((digs s.data.toList).take i) : Nat) : Int)), (21, .int .i64 ((digs s.data.toList).length : Int)), (22, .int .i64 (i : Int))]) (fun _ => []) (fun _ => [(fun W => Lib.TabIs Tryd.prog W Txt.tabName .u64 Lib.pow10Tab), (fun W : World => W.cell? ⟨0, 0, none⟩ = some (.int .i64 m))]) (fun i => (digs s.data.toList).length - i) rfl 0 (Nat.zero_le _) ⟨rfl, rfl, rfl, rfl, rfl, trivial⟩ .nil (fun p hp => hp) (fun i hi => ?_)
      by_cases hlt : i < (digs s.data.toList).length
      · obtain ⟨b, hb'⟩ : ∃ b, (digs s.data.toList)[i]? = some b := ⟨_, List.getElem?_eq_getElem hlt⟩
        have hb : (D s).data.toList[i]? = some b := hb'
        have hs1 := take_at hb'
        have hnb := PC.num_take_le (digs s.data.toList) i 9 (by omega)
        have hb8 : b.toNat < 256 := b.toNat_lt
        have hD := List.all_eq_true.1 hal b (List.mem_of_getElem? hb')
        rw [if_pos hD] at hs1
        unfold isD at hD
        rw [decide_eq_true_iff] at hD
        obtain ⟨h48, h57⟩ := hD
        generalize num ((digs s.data.toList).take i) = n at hs1 hnb ⊢
        repeat (first
    | (apply gateO; first
      | refine Jl.yd (Y.mv rfl rfl) rfl rfl rfl ?_
      | refine Jl.yd (Y.asg rfl rfl) rfl rfl rfl ?_
      | refine Jl.yd (Y.ext rfl rfl rfl) rfl rfl rfl ?_
      | refine Jl.yd (Y.pickT rfl rfl rfl) rfl rfl rfl ?_
      | refine Jl.yd (Y.pickF rfl rfl rfl) rfl rfl rfl ?_
      | refine Jl.off rfl rfl rfl ?_
      | refine Jl.yd (Y.cmpF rfl rfl rfl rfl (by omega)) rfl rfl rfl ?_
      | refine Jl.yd (Y.cmpT rfl rfl rfl rfl (by omega)) rfl rfl rfl ?_
      | refine Jl.yd (Y.neqB rfl rfl rfl Tryd.underlying4) rfl rfl rfl ?_
      | refine Jl.yd (Y.cmp rfl rfl rfl rfl) rfl rfl rfl ?_
      | refine Jl.yd (Y.not rfl rfl) rfl rfl rfl ?_
      | refine Jl.yd (Y.arithN rfl rfl rfl rfl (by omega)) rfl rfl rfl ?_
      | refine Jl.yd (Y.arith64 rfl rfl rfl rfl) rfl rfl rfl ?_
      | refine Jl.yd (Y.byteT (s := D s) i rfl rfl rfl Tryd.underlying9 rfl (by rw [sizeD]; omega) hb) rfl rfl rfl ?_
      | refine Jl.yd (Y.subK (((b.toNat - 48 : Nat) : Int)) rfl rfl rfl (wrap8 b.toNat h48 hb8)) rfl rfl rfl ?_
      | refine Jl.yd (Y.convB rfl rfl Tryd.underlying5 Tryd.underlying3 (by omega) (by omega)) rfl rfl rfl ?_
      | refine Jl.splitG rfl rfl (fun h => ?_) (fun h => ?_))
    | (apply gateE; first
      | refine Jl.nil (Ej.go ?_ (fun _ _ h => h))
      | (refine Jl.nil (Ej.back (fun _ _ h => h) (by repeat (first | exact .refl | apply DropTo.tail)) ?_); repeat (first | exact trivial | refine ⟨rfl, ?_⟩)))
    | (apply gateC; first
      | refine Cj.block rfl ?_
      | refine Cj.condF rfl rfl (Cj.skip rfl (Ej.go ?_ (fun _ _ h => h)))
      | (refine Cj.condF rfl rfl (Cj.skip rfl (Ej.back (fun _ _ h => h) (by repeat (first | exact .refl | apply DropTo.tail)) ?_)); repeat (first | exact trivial | refine ⟨rfl, ?_⟩))
      | refine Cj.condF rfl rfl ?_
      | refine Cj.condT rfl rfl ?_
      | refine Cj.exit rfl (Ej.go ?_ (fun _ _ h => h))
      | refine Cj.cond rfl rfl (fun h => ?_) (fun h => ?_)
      | refine Cj.skip rfl (Ej.go ?_ (fun _ _ h => h))
      | (refine Cj.skip rfl (Ej.back (fun _ _ h => h) (by repeat (first | exact .refl | apply DropTo.tail)) ?_); repeat (first | exact trivial | refine ⟨rfl, ?_⟩))
      | refine Cj.seq rfl ?_
      | refine Cj.region rfl ?_))
        refine Jl.nil (Ej.cutP (ι := Nat) _ _ _ _ (fun _ _ h => h) (i + 1) ⟨by omega, by omega⟩ ⟨rfl, rfl, by show some (Value.int .i64 _) = some (.int .i64 _); congr 2; rw [hs1]; omega, rfl, rfl, trivial⟩ .nil (fun p hp => hp))
      · obtain rfl : i = (digs s.data.toList).length := by omega
        rw [List.take_length, PC.num_digs]
        have hlb := PC.num_9 (l := s.data.toList) (by omega)
        cases hn : neg s.data.toList with
        | true =>
          have hpref : ∀ w, Calls Tryd.prog 38 #[.string s, .string ⟨#[45]⟩] w fun e w' => e = .returned (.bool true) ∧ Below w.heap.size w w' := fun w => hn ▸ pref_ s w
          have hv := val_at _ _ hn
          rw [if_pos rfl] at hv
          have hneg := hv.symm
          have hvb : -1000000000000 ≤ val s.data.toList ∧ val s.data.toList ≤ 1000000000000 := by omega
          by_cases hr : -100000000 ≤ val s.data.toList ∧ val s.data.toList ≤ 100000000
          · have hrange : true = decide (-100000000 ≤ val s.data.toList ∧ val s.data.toList ≤ 100000000) := (decide_eq_true hr).symm
            by_cases hs : same s = true
            · have hpc := PC.pc_yes hr hs
              have hsame : (!((cT (val s.data.toList)).toList == s.toList)) = false := by rw [show ((cT (val s.data.toList)).toList == s.toList) = true from hs]; rfl
              repeat (first
              | (apply gateO; first
                | refine Jl.yd (Y.mv rfl rfl) rfl rfl rfl ?_
                | refine Jl.yd (Y.asg rfl rfl) rfl rfl rfl ?_
                | refine Jl.yd (Y.ext rfl rfl rfl) rfl rfl rfl ?_
                | refine Jl.yd (Y.pickT rfl rfl rfl) rfl rfl rfl ?_
                | refine Jl.yd (Y.pickF rfl rfl rfl) rfl rfl rfl ?_
                | refine Jl.off rfl rfl rfl ?_
                | refine Jl.yd (Y.cmpF rfl rfl rfl rfl (by omega)) rfl rfl rfl ?_
                | refine Jl.yd (Y.cmpT rfl rfl rfl rfl (by omega)) rfl rfl rfl ?_
                | refine Jl.yd (Y.neqB rfl rfl rfl Tryd.underlying4) rfl rfl rfl ?_
                | refine Jl.yd (Y.cmp rfl rfl rfl rfl) rfl rfl rfl ?_
                | refine Jl.yd (Y.not rfl rfl) rfl rfl rfl ?_
                | refine Jl.yd (Y.arithN rfl rfl rfl rfl (by omega)) rfl rfl rfl ?_
                | refine Jl.yd (Y.arith64 rfl rfl rfl rfl) rfl rfl rfl ?_
                | refine Jl.call1 (v := .bool true) rfl rfl rfl rfl en38 rfl (fun w hW => by with_reducible exact hpref w) ?_
                | refine Jl.yd (Y.negN (val s.data.toList) rfl rfl hneg (by omega)) rfl rfl rfl ?_
                | refine Jl.call1 (v := .tuple #[.string (cT (val s.data.toList)), .bool true]) rfl rfl rfl rfl en8 rfl (fun w hW => by with_reducible exact Txt.CentsTextT (val s.data.toList) hr w (hW.fact (p := (fun W => Lib.TabIs Tryd.prog W Txt.tabName .u64 Lib.pow10Tab)) (by repeat (first | exact memH | refine memT ?_)))) ?_
                | refine Jl.call1 (v := .tuple #[.string ⟨#[]⟩, .bool false]) rfl rfl rfl rfl en8 rfl (fun w hW => by with_reducible exact Txt.CentsTextF (val s.data.toList) hr w (hW.fact (p := (fun W => Lib.TabIs Tryd.prog W Txt.tabName .u64 Lib.pow10Tab)) (by repeat (first | exact memH | refine memT ?_)))) ?_
                | refine Jl.yd (Y.neSV rfl rfl rfl hsame) rfl rfl rfl ?_
                | refine Jl.splitG rfl rfl (fun h => ?_) (fun h => ?_))
              | (apply gateE; first
                | refine Jl.nil (Ej.go ?_ (fun _ _ h => h))
                | (refine Jl.nil (Ej.back (fun _ _ h => h) (by repeat (first | exact .refl | apply DropTo.tail)) ?_); repeat (first | exact trivial | refine ⟨rfl, ?_⟩)))
              | (apply gateC; first
                | refine Cj.block rfl ?_
                | refine Cj.ret rfl (Ej.out2 (P := Tryd.prog) (fn := Tryd.f18) (R := Rr) (fun _ _ h => h) rfl rfl rfl (fun w' hW => ⟨by rw [hpc], hW.below⟩))
                | refine Cj.condF rfl rfl (Cj.skip rfl (Ej.go ?_ (fun _ _ h => h)))
                | (refine Cj.condF rfl rfl (Cj.skip rfl (Ej.back (fun _ _ h => h) (by repeat (first | exact .refl | apply DropTo.tail)) ?_)); repeat (first | exact trivial | refine ⟨rfl, ?_⟩))
                | refine Cj.condF rfl rfl ?_
                | refine Cj.condT rfl rfl ?_
                | refine Cj.exit rfl (Ej.go ?_ (fun _ _ h => h))
                | refine Cj.cond rfl rfl (fun h => ?_) (fun h => ?_)
                | refine Cj.skip rfl (Ej.go ?_ (fun _ _ h => h))
                | (refine Cj.skip rfl (Ej.back (fun _ _ h => h) (by repeat (first | exact .refl | apply DropTo.tail)) ?_); repeat (first | exact trivial | refine ⟨rfl, ?_⟩))
                | refine Cj.seq rfl ?_
                | refine Cj.region rfl ?_))
            · have hpc := PC.pc_not (s := s) (fun g => hs g.2)
              have hsame : (!((cT (val s.data.toList)).toList == s.toList)) = true := by rw [show ((cT (val s.data.toList)).toList == s.toList) = false from Bool.eq_false_iff.2 hs]; rfl
              repeat (first
              | (apply gateO; first
                | refine Jl.yd (Y.mv rfl rfl) rfl rfl rfl ?_
                | refine Jl.yd (Y.asg rfl rfl) rfl rfl rfl ?_
                | refine Jl.yd (Y.ext rfl rfl rfl) rfl rfl rfl ?_
                | refine Jl.yd (Y.pickT rfl rfl rfl) rfl rfl rfl ?_
                | refine Jl.yd (Y.pickF rfl rfl rfl) rfl rfl rfl ?_
                | refine Jl.off rfl rfl rfl ?_
                | refine Jl.yd (Y.cmpF rfl rfl rfl rfl (by omega)) rfl rfl rfl ?_
                | refine Jl.yd (Y.cmpT rfl rfl rfl rfl (by omega)) rfl rfl rfl ?_
                | refine Jl.yd (Y.neqB rfl rfl rfl Tryd.underlying4) rfl rfl rfl ?_
                | refine Jl.yd (Y.cmp rfl rfl rfl rfl) rfl rfl rfl ?_
                | refine Jl.yd (Y.not rfl rfl) rfl rfl rfl ?_
                | refine Jl.yd (Y.arithN rfl rfl rfl rfl (by omega)) rfl rfl rfl ?_
                | refine Jl.yd (Y.arith64 rfl rfl rfl rfl) rfl rfl rfl ?_
                | refine Jl.call1 (v := .bool true) rfl rfl rfl rfl en38 rfl (fun w hW => by with_reducible exact hpref w) ?_
                | refine Jl.yd (Y.negN (val s.data.toList) rfl rfl hneg (by omega)) rfl rfl rfl ?_
                | refine Jl.call1 (v := .tuple #[.string (cT (val s.data.toList)), .bool true]) rfl rfl rfl rfl en8 rfl (fun w hW => by with_reducible exact Txt.CentsTextT (val s.data.toList) hr w (hW.fact (p := (fun W => Lib.TabIs Tryd.prog W Txt.tabName .u64 Lib.pow10Tab)) (by repeat (first | exact memH | refine memT ?_)))) ?_
                | refine Jl.call1 (v := .tuple #[.string ⟨#[]⟩, .bool false]) rfl rfl rfl rfl en8 rfl (fun w hW => by with_reducible exact Txt.CentsTextF (val s.data.toList) hr w (hW.fact (p := (fun W => Lib.TabIs Tryd.prog W Txt.tabName .u64 Lib.pow10Tab)) (by repeat (first | exact memH | refine memT ?_)))) ?_
                | refine Jl.yd (Y.neSV rfl rfl rfl hsame) rfl rfl rfl ?_
                | refine Jl.splitG rfl rfl (fun h => ?_) (fun h => ?_))
              | (apply gateE; first
                | refine Jl.nil (Ej.go ?_ (fun _ _ h => h))
                | (refine Jl.nil (Ej.back (fun _ _ h => h) (by repeat (first | exact .refl | apply DropTo.tail)) ?_); repeat (first | exact trivial | refine ⟨rfl, ?_⟩)))
              | (apply gateC; first
                | refine Cj.block rfl ?_
                | refine Cj.ret rfl (Ej.out2 (P := Tryd.prog) (fn := Tryd.f18) (R := Rr) (fun _ _ h => h) rfl rfl rfl (fun w' hW => ⟨by rw [hpc], hW.below⟩))
                | refine Cj.condF rfl rfl (Cj.skip rfl (Ej.go ?_ (fun _ _ h => h)))
                | (refine Cj.condF rfl rfl (Cj.skip rfl (Ej.back (fun _ _ h => h) (by repeat (first | exact .refl | apply DropTo.tail)) ?_)); repeat (first | exact trivial | refine ⟨rfl, ?_⟩))
                | refine Cj.condF rfl rfl ?_
                | refine Cj.condT rfl rfl ?_
                | refine Cj.exit rfl (Ej.go ?_ (fun _ _ h => h))
                | refine Cj.cond rfl rfl (fun h => ?_) (fun h => ?_)
                | refine Cj.skip rfl (Ej.go ?_ (fun _ _ h => h))
                | (refine Cj.skip rfl (Ej.back (fun _ _ h => h) (by repeat (first | exact .refl | apply DropTo.tail)) ?_); repeat (first | exact trivial | refine ⟨rfl, ?_⟩))
                | refine Cj.seq rfl ?_
                | refine Cj.region rfl ?_))
          · have hrange : false = decide (-100000000 ≤ val s.data.toList ∧ val s.data.toList ≤ 100000000) := (decide_eq_false hr).symm
            have hpc := PC.pc_not (s := s) (fun g => hr g.1)
            repeat (first
              | (apply gateO; first
                | refine Jl.yd (Y.mv rfl rfl) rfl rfl rfl ?_
                | refine Jl.yd (Y.asg rfl rfl) rfl rfl rfl ?_
                | refine Jl.yd (Y.ext rfl rfl rfl) rfl rfl rfl ?_
                | refine Jl.yd (Y.pickT rfl rfl rfl) rfl rfl rfl ?_
                | refine Jl.yd (Y.pickF rfl rfl rfl) rfl rfl rfl ?_
                | refine Jl.off rfl rfl rfl ?_
                | refine Jl.yd (Y.cmpF rfl rfl rfl rfl (by omega)) rfl rfl rfl ?_
                | refine Jl.yd (Y.cmpT rfl rfl rfl rfl (by omega)) rfl rfl rfl ?_
                | refine Jl.yd (Y.neqB rfl rfl rfl Tryd.underlying4) rfl rfl rfl ?_
                | refine Jl.yd (Y.cmp rfl rfl rfl rfl) rfl rfl rfl ?_
                | refine Jl.yd (Y.not rfl rfl) rfl rfl rfl ?_
                | refine Jl.yd (Y.arithN rfl rfl rfl rfl (by omega)) rfl rfl rfl ?_
                | refine Jl.yd (Y.arith64 rfl rfl rfl rfl) rfl rfl rfl ?_
                | refine Jl.call1 (v := .bool true) rfl rfl rfl rfl en38 rfl (fun w hW => by with_reducible exact hpref w) ?_
                | refine Jl.yd (Y.negN (val s.data.toList) rfl rfl hneg (by omega)) rfl rfl rfl ?_
                | refine Jl.call1 (v := .tuple #[.string (cT (val s.data.toList)), .bool true]) rfl rfl rfl rfl en8 rfl (fun w hW => by with_reducible exact Txt.CentsTextT (val s.data.toList) hr w (hW.fact (p := (fun W => Lib.TabIs Tryd.prog W Txt.tabName .u64 Lib.pow10Tab)) (by repeat (first | exact memH | refine memT ?_)))) ?_
                | refine Jl.call1 (v := .tuple #[.string ⟨#[]⟩, .bool false]) rfl rfl rfl rfl en8 rfl (fun w hW => by with_reducible exact Txt.CentsTextF (val s.data.toList) hr w (hW.fact (p := (fun W => Lib.TabIs Tryd.prog W Txt.tabName .u64 Lib.pow10Tab)) (by repeat (first | exact memH | refine memT ?_)))) ?_
                | refine Jl.yd (Y.neSV rfl rfl rfl hsame) rfl rfl rfl ?_
                | refine Jl.splitG rfl rfl (fun h => ?_) (fun h => ?_))
              | (apply gateE; first
                | refine Jl.nil (Ej.go ?_ (fun _ _ h => h))
                | (refine Jl.nil (Ej.back (fun _ _ h => h) (by repeat (first | exact .refl | apply DropTo.tail)) ?_); repeat (first | exact trivial | refine ⟨rfl, ?_⟩)))
              | (apply gateC; first
                | refine Cj.block rfl ?_
                | refine Cj.ret rfl (Ej.out2 (P := Tryd.prog) (fn := Tryd.f18) (R := Rr) (fun _ _ h => h) rfl rfl rfl (fun w' hW => ⟨by rw [hpc], hW.below⟩))
                | refine Cj.condF rfl rfl (Cj.skip rfl (Ej.go ?_ (fun _ _ h => h)))
                | (refine Cj.condF rfl rfl (Cj.skip rfl (Ej.back (fun _ _ h => h) (by repeat (first | exact .refl | apply DropTo.tail)) ?_)); repeat (first | exact trivial | refine ⟨rfl, ?_⟩))
                | refine Cj.condF rfl rfl ?_
                | refine Cj.condT rfl rfl ?_
                | refine Cj.exit rfl (Ej.go ?_ (fun _ _ h => h))
                | refine Cj.cond rfl rfl (fun h => ?_) (fun h => ?_)
                | refine Cj.skip rfl (Ej.go ?_ (fun _ _ h => h))
                | (refine Cj.skip rfl (Ej.back (fun _ _ h => h) (by repeat (first | exact .refl | apply DropTo.tail)) ?_); repeat (first | exact trivial | refine ⟨rfl, ?_⟩))
                | refine Cj.seq rfl ?_
                | refine Cj.region rfl ?_))
        | false =>
          have hpref : ∀ w, Calls Tryd.prog 38 #[.string s, .string ⟨#[45]⟩] w fun e w' => e = .returned (.bool false) ∧ Below w.heap.size w w' := fun w => hn ▸ pref_ s w
          have hv := val_at _ _ hn
          rw [if_neg (by simp)] at hv
          rw [← hv]
          have hvb : -1000000000000 ≤ val s.data.toList ∧ val s.data.toList ≤ 1000000000000 := by omega
          by_cases hr : -100000000 ≤ val s.data.toList ∧ val s.data.toList ≤ 100000000
          · have hrange : true = decide (-100000000 ≤ val s.data.toList ∧ val s.data.toList ≤ 100000000) := (decide_eq_true hr).symm
            by_cases hs : same s = true
            · have hpc := PC.pc_yes hr hs
              have hsame : (!((cT (val s.data.toList)).toList == s.toList)) = false := by rw [show ((cT (val s.data.toList)).toList == s.toList) = true from hs]; rfl
              repeat (first
              | (apply gateO; first
                | refine Jl.yd (Y.mv rfl rfl) rfl rfl rfl ?_
                | refine Jl.yd (Y.asg rfl rfl) rfl rfl rfl ?_
                | refine Jl.yd (Y.ext rfl rfl rfl) rfl rfl rfl ?_
                | refine Jl.yd (Y.pickT rfl rfl rfl) rfl rfl rfl ?_
                | refine Jl.yd (Y.pickF rfl rfl rfl) rfl rfl rfl ?_
                | refine Jl.off rfl rfl rfl ?_
                | refine Jl.yd (Y.cmpF rfl rfl rfl rfl (by omega)) rfl rfl rfl ?_
                | refine Jl.yd (Y.cmpT rfl rfl rfl rfl (by omega)) rfl rfl rfl ?_
                | refine Jl.yd (Y.neqB rfl rfl rfl Tryd.underlying4) rfl rfl rfl ?_
                | refine Jl.yd (Y.cmp rfl rfl rfl rfl) rfl rfl rfl ?_
                | refine Jl.yd (Y.not rfl rfl) rfl rfl rfl ?_
                | refine Jl.yd (Y.arithN rfl rfl rfl rfl (by omega)) rfl rfl rfl ?_
                | refine Jl.yd (Y.arith64 rfl rfl rfl rfl) rfl rfl rfl ?_
                | refine Jl.call1 (v := .bool false) rfl rfl rfl rfl en38 rfl (fun w hW => by with_reducible exact hpref w) ?_
                | refine Jl.yd (Y.negN (val s.data.toList) rfl rfl hneg (by omega)) rfl rfl rfl ?_
                | refine Jl.call1 (v := .tuple #[.string (cT (val s.data.toList)), .bool true]) rfl rfl rfl rfl en8 rfl (fun w hW => by with_reducible exact Txt.CentsTextT (val s.data.toList) hr w (hW.fact (p := (fun W => Lib.TabIs Tryd.prog W Txt.tabName .u64 Lib.pow10Tab)) (by repeat (first | exact memH | refine memT ?_)))) ?_
                | refine Jl.call1 (v := .tuple #[.string ⟨#[]⟩, .bool false]) rfl rfl rfl rfl en8 rfl (fun w hW => by with_reducible exact Txt.CentsTextF (val s.data.toList) hr w (hW.fact (p := (fun W => Lib.TabIs Tryd.prog W Txt.tabName .u64 Lib.pow10Tab)) (by repeat (first | exact memH | refine memT ?_)))) ?_
                | refine Jl.yd (Y.neSV rfl rfl rfl hsame) rfl rfl rfl ?_
                | refine Jl.splitG rfl rfl (fun h => ?_) (fun h => ?_))
              | (apply gateE; first
                | refine Jl.nil (Ej.go ?_ (fun _ _ h => h))
                | (refine Jl.nil (Ej.back (fun _ _ h => h) (by repeat (first | exact .refl | apply DropTo.tail)) ?_); repeat (first | exact trivial | refine ⟨rfl, ?_⟩)))
              | (apply gateC; first
                | refine Cj.block rfl ?_
                | refine Cj.ret rfl (Ej.out2 (P := Tryd.prog) (fn := Tryd.f18) (R := Rr) (fun _ _ h => h) rfl rfl rfl (fun w' hW => ⟨by rw [hpc], hW.below⟩))
                | refine Cj.condF rfl rfl (Cj.skip rfl (Ej.go ?_ (fun _ _ h => h)))
                | (refine Cj.condF rfl rfl (Cj.skip rfl (Ej.back (fun _ _ h => h) (by repeat (first | exact .refl | apply DropTo.tail)) ?_)); repeat (first | exact trivial | refine ⟨rfl, ?_⟩))
                | refine Cj.condF rfl rfl ?_
                | refine Cj.condT rfl rfl ?_
                | refine Cj.exit rfl (Ej.go ?_ (fun _ _ h => h))
                | refine Cj.cond rfl rfl (fun h => ?_) (fun h => ?_)
                | refine Cj.skip rfl (Ej.go ?_ (fun _ _ h => h))
                | (refine Cj.skip rfl (Ej.back (fun _ _ h => h) (by repeat (first | exact .refl | apply DropTo.tail)) ?_); repeat (first | exact trivial | refine ⟨rfl, ?_⟩))
                | refine Cj.seq rfl ?_
                | refine Cj.region rfl ?_))
            · have hpc := PC.pc_not (s := s) (fun g => hs g.2)
              have hsame : (!((cT (val s.data.toList)).toList == s.toList)) = true := by rw [show ((cT (val s.data.toList)).toList == s.toList) = false from Bool.eq_false_iff.2 hs]; rfl
              repeat (first
              | (apply gateO; first
                | refine Jl.yd (Y.mv rfl rfl) rfl rfl rfl ?_
                | refine Jl.yd (Y.asg rfl rfl) rfl rfl rfl ?_
                | refine Jl.yd (Y.ext rfl rfl rfl) rfl rfl rfl ?_
                | refine Jl.yd (Y.pickT rfl rfl rfl) rfl rfl rfl ?_
                | refine Jl.yd (Y.pickF rfl rfl rfl) rfl rfl rfl ?_
                | refine Jl.off rfl rfl rfl ?_
                | refine Jl.yd (Y.cmpF rfl rfl rfl rfl (by omega)) rfl rfl rfl ?_
                | refine Jl.yd (Y.cmpT rfl rfl rfl rfl (by omega)) rfl rfl rfl ?_
                | refine Jl.yd (Y.neqB rfl rfl rfl Tryd.underlying4) rfl rfl rfl ?_
                | refine Jl.yd (Y.cmp rfl rfl rfl rfl) rfl rfl rfl ?_
                | refine Jl.yd (Y.not rfl rfl) rfl rfl rfl ?_
                | refine Jl.yd (Y.arithN rfl rfl rfl rfl (by omega)) rfl rfl rfl ?_
                | refine Jl.yd (Y.arith64 rfl rfl rfl rfl) rfl rfl rfl ?_
                | refine Jl.call1 (v := .bool false) rfl rfl rfl rfl en38 rfl (fun w hW => by with_reducible exact hpref w) ?_
                | refine Jl.yd (Y.negN (val s.data.toList) rfl rfl hneg (by omega)) rfl rfl rfl ?_
                | refine Jl.call1 (v := .tuple #[.string (cT (val s.data.toList)), .bool true]) rfl rfl rfl rfl en8 rfl (fun w hW => by with_reducible exact Txt.CentsTextT (val s.data.toList) hr w (hW.fact (p := (fun W => Lib.TabIs Tryd.prog W Txt.tabName .u64 Lib.pow10Tab)) (by repeat (first | exact memH | refine memT ?_)))) ?_
                | refine Jl.call1 (v := .tuple #[.string ⟨#[]⟩, .bool false]) rfl rfl rfl rfl en8 rfl (fun w hW => by with_reducible exact Txt.CentsTextF (val s.data.toList) hr w (hW.fact (p := (fun W => Lib.TabIs Tryd.prog W Txt.tabName .u64 Lib.pow10Tab)) (by repeat (first | exact memH | refine memT ?_)))) ?_
                | refine Jl.yd (Y.neSV rfl rfl rfl hsame) rfl rfl rfl ?_
                | refine Jl.splitG rfl rfl (fun h => ?_) (fun h => ?_))
              | (apply gateE; first
                | refine Jl.nil (Ej.go ?_ (fun _ _ h => h))
                | (refine Jl.nil (Ej.back (fun _ _ h => h) (by repeat (first | exact .refl | apply DropTo.tail)) ?_); repeat (first | exact trivial | refine ⟨rfl, ?_⟩)))
              | (apply gateC; first
                | refine Cj.block rfl ?_
                | refine Cj.ret rfl (Ej.out2 (P := Tryd.prog) (fn := Tryd.f18) (R := Rr) (fun _ _ h => h) rfl rfl rfl (fun w' hW => ⟨by rw [hpc], hW.below⟩))
                | refine Cj.condF rfl rfl (Cj.skip rfl (Ej.go ?_ (fun _ _ h => h)))
                | (refine Cj.condF rfl rfl (Cj.skip rfl (Ej.back (fun _ _ h => h) (by repeat (first | exact .refl | apply DropTo.tail)) ?_)); repeat (first | exact trivial | refine ⟨rfl, ?_⟩))
                | refine Cj.condF rfl rfl ?_
                | refine Cj.condT rfl rfl ?_
                | refine Cj.exit rfl (Ej.go ?_ (fun _ _ h => h))
                | refine Cj.cond rfl rfl (fun h => ?_) (fun h => ?_)
                | refine Cj.skip rfl (Ej.go ?_ (fun _ _ h => h))
                | (refine Cj.skip rfl (Ej.back (fun _ _ h => h) (by repeat (first | exact .refl | apply DropTo.tail)) ?_); repeat (first | exact trivial | refine ⟨rfl, ?_⟩))
                | refine Cj.seq rfl ?_
                | refine Cj.region rfl ?_))
          · have hrange : false = decide (-100000000 ≤ val s.data.toList ∧ val s.data.toList ≤ 100000000) := (decide_eq_false hr).symm
            have hpc := PC.pc_not (s := s) (fun g => hr g.1)
            repeat (first
              | (apply gateO; first
                | refine Jl.yd (Y.mv rfl rfl) rfl rfl rfl ?_
                | refine Jl.yd (Y.asg rfl rfl) rfl rfl rfl ?_
                | refine Jl.yd (Y.ext rfl rfl rfl) rfl rfl rfl ?_
                | refine Jl.yd (Y.pickT rfl rfl rfl) rfl rfl rfl ?_
                | refine Jl.yd (Y.pickF rfl rfl rfl) rfl rfl rfl ?_
                | refine Jl.off rfl rfl rfl ?_
                | refine Jl.yd (Y.cmpF rfl rfl rfl rfl (by omega)) rfl rfl rfl ?_
                | refine Jl.yd (Y.cmpT rfl rfl rfl rfl (by omega)) rfl rfl rfl ?_
                | refine Jl.yd (Y.neqB rfl rfl rfl Tryd.underlying4) rfl rfl rfl ?_
                | refine Jl.yd (Y.cmp rfl rfl rfl rfl) rfl rfl rfl ?_
                | refine Jl.yd (Y.not rfl rfl) rfl rfl rfl ?_
                | refine Jl.yd (Y.arithN rfl rfl rfl rfl (by omega)) rfl rfl rfl ?_
                | refine Jl.yd (Y.arith64 rfl rfl rfl rfl) rfl rfl rfl ?_
                | refine Jl.call1 (v := .bool false) rfl rfl rfl rfl en38 rfl (fun w hW => by with_reducible exact hpref w) ?_
                | refine Jl.yd (Y.negN (val s.data.toList) rfl rfl hneg (by omega)) rfl rfl rfl ?_
                | refine Jl.call1 (v := .tuple #[.string (cT (val s.data.toList)), .bool true]) rfl rfl rfl rfl en8 rfl (fun w hW => by with_reducible exact Txt.CentsTextT (val s.data.toList) hr w (hW.fact (p := (fun W => Lib.TabIs Tryd.prog W Txt.tabName .u64 Lib.pow10Tab)) (by repeat (first | exact memH | refine memT ?_)))) ?_
                | refine Jl.call1 (v := .tuple #[.string ⟨#[]⟩, .bool false]) rfl rfl rfl rfl en8 rfl (fun w hW => by with_reducible exact Txt.CentsTextF (val s.data.toList) hr w (hW.fact (p := (fun W => Lib.TabIs Tryd.prog W Txt.tabName .u64 Lib.pow10Tab)) (by repeat (first | exact memH | refine memT ?_)))) ?_
                | refine Jl.yd (Y.neSV rfl rfl rfl hsame) rfl rfl rfl ?_
                | refine Jl.splitG rfl rfl (fun h => ?_) (fun h => ?_))
              | (apply gateE; first
                | refine Jl.nil (Ej.go ?_ (fun _ _ h => h))
                | (refine Jl.nil (Ej.back (fun _ _ h => h) (by repeat (first | exact .refl | apply DropTo.tail)) ?_); repeat (first | exact trivial | refine ⟨rfl, ?_⟩)))
              | (apply gateC; first
                | refine Cj.block rfl ?_
                | refine Cj.ret rfl (Ej.out2 (P := Tryd.prog) (fn := Tryd.f18) (R := Rr) (fun _ _ h => h) rfl rfl rfl (fun w' hW => ⟨by rw [hpc], hW.below⟩))
                | refine Cj.condF rfl rfl (Cj.skip rfl (Ej.go ?_ (fun _ _ h => h)))
                | (refine Cj.condF rfl rfl (Cj.skip rfl (Ej.back (fun _ _ h => h) (by repeat (first | exact .refl | apply DropTo.tail)) ?_)); repeat (first | exact trivial | refine ⟨rfl, ?_⟩))
                | refine Cj.condF rfl rfl ?_
                | refine Cj.condT rfl rfl ?_
                | refine Cj.exit rfl (Ej.go ?_ (fun _ _ h => h))
                | refine Cj.cond rfl rfl (fun h => ?_) (fun h => ?_)
                | refine Cj.skip rfl (Ej.go ?_ (fun _ _ h => h))
                | (refine Cj.skip rfl (Ej.back (fun _ _ h => h) (by repeat (first | exact .refl | apply DropTo.tail)) ?_); repeat (first | exact trivial | refine ⟨rfl, ?_⟩))
                | refine Cj.seq rfl ?_
                | refine Cj.region rfl ?_))
set_option maxHeartbeats 2000000 in
/-- For every text: the program's cents are the reference's. -/
theorem law6 (s : ByteArray) (m : Int) (w : World) (htab : Lib.TabIs Tryd.prog w Txt.tabName .u64 Lib.pow10Tab) (hm : w.cell? ⟨0, 0, none⟩ = some (.int .i64 m)) : Calls Tryd.prog 6 #[.string s] w fun e w' => e = .returned (.bool true) ∧ Below w.heap.size w w' := by
  let Rr : Ending → World → Prop := fun e w' => e = .returned (.bool true) ∧ Below w.heap.size w w'
  refine enterW (args := [.string s]) [(fun W => Lib.TabIs Tryd.prog W Txt.tabName .u64 Lib.pow10Tab), (fun W : World => W.cell? ⟨0, 0, none⟩ = some (.int .i64 m))] (fun p hp W hb => by
    rcases List.mem_cons.1 hp with rfl | hp
    · exact Txt.tab_below htab hb
    · rw [List.mem_singleton.1 hp]; exact pw_cell_below hb hm) Tryd.func6 rfl rfl ?_
  show Cj Tryd.prog _ _ _ (bodyPost Tryd.prog Tryd.f6 Rr) _ _ _
  by_cases hsz : 1048576 < s.size
  · repeat (first
    | (apply gateO; first
      | refine Jl.yd (Y.mv rfl rfl) rfl rfl rfl ?_
      | refine Jl.yd (Y.asg rfl rfl) rfl rfl rfl ?_
      | refine Jl.yd (Y.ext rfl rfl rfl) rfl rfl rfl ?_
      | refine Jl.yd (Y.pickT rfl rfl rfl) rfl rfl rfl ?_
      | refine Jl.yd (Y.pickF rfl rfl rfl) rfl rfl rfl ?_
      | refine Jl.off rfl rfl rfl ?_
      | refine Jl.yd (Y.cmpF rfl rfl rfl rfl (by omega)) rfl rfl rfl ?_
      | refine Jl.yd (Y.cmpT rfl rfl rfl rfl (by omega)) rfl rfl rfl ?_
      | refine Jl.yd (Y.neqB rfl rfl rfl Tryd.underlying4) rfl rfl rfl ?_
      | refine Jl.yd (Y.cmp rfl rfl rfl rfl) rfl rfl rfl ?_
      | refine Jl.yd (Y.not rfl rfl) rfl rfl rfl ?_
      | refine Jl.yd (Y.arithN rfl rfl rfl rfl (by omega)) rfl rfl rfl ?_
      | refine Jl.yd (Y.arith64 rfl rfl rfl rfl) rfl rfl rfl ?_
      | refine Jl.yd (Y.lenT (s := s) (n := (s.size : Int)) rfl rfl Tryd.underlying9 rfl) rfl rfl rfl ?_
      | refine Jl.splitG rfl rfl (fun h => ?_) (fun h => ?_))
    | (apply gateE; first
      | refine Jl.nil (Ej.go ?_ (fun _ _ h => h))
      | (refine Jl.nil (Ej.back (fun _ _ h => h) (by repeat (first | exact .refl | apply DropTo.tail)) ?_); repeat (first | exact trivial | refine ⟨rfl, ?_⟩)))
    | (apply gateC; first
      | refine Cj.ret rfl (Ej.out1 (P := Tryd.prog) (fn := Tryd.f6) (R := Rr) (fun _ _ h => h) rfl rfl (fun w' hW => ⟨rfl, hW.below⟩))
      | refine Cj.condF rfl rfl (Cj.skip rfl (Ej.go ?_ (fun _ _ h => h)))
      | (refine Cj.condF rfl rfl (Cj.skip rfl (Ej.back (fun _ _ h => h) (by repeat (first | exact .refl | apply DropTo.tail)) ?_)); repeat (first | exact trivial | refine ⟨rfl, ?_⟩))
      | refine Cj.condF rfl rfl ?_
      | refine Cj.condT rfl rfl ?_
      | refine Cj.exit rfl (Ej.go ?_ (fun _ _ h => h))
      | refine Cj.cond rfl rfl (fun h => ?_) (fun h => ?_)
      | refine Cj.skip rfl (Ej.go ?_ (fun _ _ h => h))
      | (refine Cj.skip rfl (Ej.back (fun _ _ h => h) (by repeat (first | exact .refl | apply DropTo.tail)) ?_); repeat (first | exact trivial | refine ⟨rfl, ?_⟩))
      | refine Cj.seq rfl ?_
      | refine Cj.region rfl ?_))
  · repeat (first
    | (apply gateO; first
      | refine Jl.yd (Y.mv rfl rfl) rfl rfl rfl ?_
      | refine Jl.yd (Y.asg rfl rfl) rfl rfl rfl ?_
      | refine Jl.yd (Y.ext rfl rfl rfl) rfl rfl rfl ?_
      | refine Jl.yd (Y.pickT rfl rfl rfl) rfl rfl rfl ?_
      | refine Jl.yd (Y.pickF rfl rfl rfl) rfl rfl rfl ?_
      | refine Jl.off rfl rfl rfl ?_
      | refine Jl.yd (Y.cmpF rfl rfl rfl rfl (by omega)) rfl rfl rfl ?_
      | refine Jl.yd (Y.cmpT rfl rfl rfl rfl (by omega)) rfl rfl rfl ?_
      | refine Jl.yd (Y.neqB rfl rfl rfl Tryd.underlying4) rfl rfl rfl ?_
      | refine Jl.yd (Y.cmp rfl rfl rfl rfl) rfl rfl rfl ?_
      | refine Jl.yd (Y.not rfl rfl) rfl rfl rfl ?_
      | refine Jl.yd (Y.arithN rfl rfl rfl rfl (by omega)) rfl rfl rfl ?_
      | refine Jl.yd (Y.arith64 rfl rfl rfl rfl) rfl rfl rfl ?_
      | refine Jl.yd (Y.lenT (s := s) (n := (s.size : Int)) rfl rfl Tryd.underlying9 rfl) rfl rfl rfl ?_
      | refine Jl.call1 (v := .tuple #[.int .i64 (pc s).1, .bool (pc s).2]) rfl rfl rfl rfl en17 rfl (fun w hW => by with_reducible exact spec17 s w) ?_
      | refine Jl.call1 (v := .tuple #[.int .i64 (pc s).1, .bool (pc s).2]) rfl rfl rfl rfl en18 rfl (fun w hW => by with_reducible exact impl18 s (by omega) m w (hW.fact (p := (fun W => Lib.TabIs Tryd.prog W Txt.tabName .u64 Lib.pow10Tab)) (by repeat (first | exact memH | refine memT ?_))) (hW.fact (p := (fun W : World => W.cell? ⟨0, 0, none⟩ = some (.int .i64 m))) (by repeat (first | exact memH | refine memT ?_)))) ?_
      | refine Jl.splitG rfl rfl (fun h => ?_) (fun h => ?_))
    | (apply gateE; first
      | refine Jl.nil (Ej.go ?_ (fun _ _ h => h))
      | (refine Jl.nil (Ej.back (fun _ _ h => h) (by repeat (first | exact .refl | apply DropTo.tail)) ?_); repeat (first | exact trivial | refine ⟨rfl, ?_⟩)))
    | (apply gateC; first
      | refine Cj.ret rfl (Ej.out1 (P := Tryd.prog) (fn := Tryd.f6) (R := Rr) (fun _ _ h => h) rfl rfl (fun w' hW => ⟨rfl, hW.below⟩))
      | refine Cj.condF rfl rfl (Cj.skip rfl (Ej.go ?_ (fun _ _ h => h)))
      | (refine Cj.condF rfl rfl (Cj.skip rfl (Ej.back (fun _ _ h => h) (by repeat (first | exact .refl | apply DropTo.tail)) ?_)); repeat (first | exact trivial | refine ⟨rfl, ?_⟩))
      | refine Cj.condF rfl rfl ?_
      | refine Cj.condT rfl rfl ?_
      | refine Cj.exit rfl (Ej.go ?_ (fun _ _ h => h))
      | refine Cj.cond rfl rfl (fun h => ?_) (fun h => ?_)
      | refine Cj.skip rfl (Ej.go ?_ (fun _ _ h => h))
      | (refine Cj.skip rfl (Ej.back (fun _ _ h => h) (by repeat (first | exact .refl | apply DropTo.tail)) ?_); repeat (first | exact trivial | refine ⟨rfl, ?_⟩))
      | refine Cj.seq rfl ?_
      | refine Cj.region rfl ?_))
end PCW
end Go.Proofs.YthmgiagecgkmiaaDoor.WK
