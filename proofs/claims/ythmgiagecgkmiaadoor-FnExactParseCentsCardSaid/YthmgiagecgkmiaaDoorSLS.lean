import Derived.Test.YthmgiagecgkmiaaDoorSLE
import Derived.Laws.Concat
import Derived.Laws.Strings
/-! Texts: joining, holding one against another. -/
namespace Go.Proofs.YthmgiagecgkmiaaDoorW.SL
open Go Go.RowKit Go.Proofs.YthmgiagecgkmiaaDoorW.PrintWords
set_option linter.unusedSimpArgs false
set_option linter.unusedVariables false
section
variable {P : Program} {N : Nat} {B : Base} {L : Sl} {its : List Item} {ps : List (World → Prop)} {o : Oper} {T n m : Nat} {x y : Operand} {p q : ByteArray} {b : Bool}
namespace Y
theorem cat {tx ty : TypeId} (hop : o.op = .binOp .add tx x y ty) (hx : ev L x = some (.string p)) (hy : ev L y = some (.string q)) (hs : p.size + q.size ≤ 9223372036854775807) : Yd P N B o (.string (p ++ q)) L its ps :=
  bin hop hx hy (fun w => by simp [eqGuard, binOp_string_add, run_string_add_sum w p q hs])
theorem eqS {tx ty : TypeId} (hop : o.op = .binOp .eql tx x y ty) (hx : ev L x = some (.string p)) (hy : ev L y = some (.string q)) : Yd P N B o (.bool (p.toList == q.toList)) L its ps :=
  bin hop hx hy (fun w => by simp [eqGuard, binOp_string_eql])
theorem neS {tx ty : TypeId} (hop : o.op = .binOp .neq tx x y ty) (hx : ev L x = some (.string p)) (hy : ev L y = some (.string q)) : Yd P N B o (.bool (!(p.toList == q.toList))) L its ps :=
  bin hop hx hy (fun w => by simp [eqGuard, binOp_string_neq])
theorem neSF {tx ty : TypeId} (hop : o.op = .binOp .neq tx x y ty) (hx : ev L x = some (.string p)) (hy : ev L y = some (.string p)) : Yd P N B o (.bool false) L its ps := by
  have := neS (P := P) (N := N) (B := B) (its := its) (ps := ps) hop hx hy
  simpa using this
theorem eqST {tx ty : TypeId} (hop : o.op = .binOp .eql tx x y ty) (hx : ev L x = some (.string p)) (hy : ev L y = some (.string p)) : Yd P N B o (.bool true) L its ps := by
  have := eqS (P := P) (N := N) (B := B) (its := its) (ps := ps) hop hx hy
  simpa using this
theorem quoN {tx ty : TypeId} {p q : Int} (r : Int) (hop : o.op = .binOp .quo tx x y ty) (hx : ev L x = some (.int .i64 p)) (hy : ev L y = some (.int .i64 q)) (h0 : 0 ≤ p ∧ p ≤ 9223372036854775807) (h1 : 0 < q) (hr : p / q = r) : Yd P N B o (.int .i64 r) L its ps := by
  refine bin hop hx hy (fun w => ?_)
  have e : p.tdiv q = r := by rw [Int.tdiv_eq_ediv_of_nonneg h0.1]; exact hr
  have hr0 : 0 ≤ r := by rw [← hr]; exact Int.ediv_nonneg h0.1 (by omega)
  have hr1 : r ≤ p := by rw [← hr]; exact Int.ediv_le_self _ h0.1
  have e2 : IntKind.i64.wrap r = r := by rw [IntKind.wrap_i64]; omega
  simp [eqGuard, binOp, Op.intArith, Op.intDiv, show ¬ q = 0 by omega, e, e2]
theorem remN {tx ty : TypeId} {p q : Int} (r : Int) (hop : o.op = .binOp .rem tx x y ty) (hx : ev L x = some (.int .i64 p)) (hy : ev L y = some (.int .i64 q)) (h0 : 0 ≤ p) (h1 : 0 < q) (hr : p % q = r) : Yd P N B o (.int .i64 r) L its ps := by
  refine bin hop hx hy (fun w => ?_)
  have e : p.tmod q = r := by rw [Int.tmod_eq_emod_of_nonneg h0]; exact hr
  simp [eqGuard, binOp, Op.intArith, Op.intDiv, show ¬ q = 0 by omega, e]
theorem negN {tx : TypeId} {p : Int} (r : Int) (hop : o.op = .unOp .neg tx x) (hx : ev L x = some (.int .i64 p)) (hr : -p = r) (hb : -9223372036854775808 ≤ r ∧ r ≤ 9223372036854775807) : Yd P N B o (.int .i64 r) L its ps := by
  refine un hop hx (fun w => ?_)
  have e2 : IntKind.i64.wrap (-p) = r := by rw [hr, IntKind.wrap_i64]; omega
  simp [Op.unary, Op.intArith, e2]
end Y
end
end Go.Proofs.YthmgiagecgkmiaaDoorW.SL
