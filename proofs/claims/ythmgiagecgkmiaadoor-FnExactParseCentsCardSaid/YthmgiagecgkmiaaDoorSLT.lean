import Derived.Test.YthmgiagecgkmiaaDoorSLS
/-! Texts byte by byte: their length, a byte, bytes as numbers. -/
namespace Go.Proofs.YthmgiagecgkmiaaDoorW.SL
open Go Go.RowKit Go.Proofs.YthmgiagecgkmiaaDoorW.PrintWords
set_option linter.unusedSimpArgs false
set_option linter.unusedVariables false
section
variable {P : Program} {N : Nat} {B : Base} {L : Sl} {its : List Item} {ps : List (World → Prop)} {o : Oper} {T : TypeId} {x y : Operand} {s : ByteArray}
namespace Y
theorem lenT {n : Int} (hop : o.op = .call { callee := .builtin .len, args := #[x], argTypes := #[T] }) (hx : ev L x = some (.string s)) (hT : P.underlying T = some .string) (hn : goInt s.size = .int .i64 n) : Yd P N B o (.int .i64 n) L its ps := .mk <| fun a w hf _ => by
  unfold execOp; rw [hop]
  simp [resolve, invoke, builtin, hf.ev hx, run_len_string w T _ s hT, hn]
theorem byteT {i : Int} {b : UInt8} (j : Nat) (hop : o.op = .index T x y) (hx : ev L x = some (.string s)) (hy : ev L y = some (.int .i64 i)) (hT : P.underlying T = some .string) (hj : i = (j : Int)) (hi : j < s.size) (hb : s.data.toList[j]? = some b) : Yd P N B o (.int .u8 (b.toNat : Int)) L its ps := .mk <| fun a w hf _ => by
  subst hj
  have e : s[j] = b := by
    have h1 : s.data.toList[j]? = some s.data.toList[j] := List.getElem?_eq_getElem (by simpa using hi)
    rw [h1] at hb
    exact Option.some.inj hb
  unfold execOp; rw [hop]
  simp only [hf.ev hx, hf.ev hy]
  rw [Sem.run_bind, run_index_string w T s .i64 (j : Int) hT, dif_pos ⟨by omega, by omega⟩]
  simp [e]
theorem subK {tx ty : TypeId} {kk : IntKind} {p q : Int} (r : Int) (hop : o.op = .binOp .sub tx x y ty) (hx : ev L x = some (.int kk p)) (hy : ev L y = some (.int kk q)) (hr : kk.wrap (p - q) = r) : Yd P N B o (.int kk r) L its ps := by
  refine bin hop hx hy (fun w => ?_)
  simp [eqGuard, binOp, Op.intArith, hr]
theorem convB {S : TypeId} {n : Int} (hop : o.op = .convert S T x) (hx : ev L x = some (.int .u8 n)) (hS : P.underlying S = some (.int .u8)) (hT : P.underlying T = some (.int .i64)) (h0 : 0 ≤ n) (h1 : n ≤ 255) : Yd P N B o (.int .i64 n) L its ps := .mk <| fun a w hf hW => by
  have wr : IntKind.i64.wrap n = n := by rw [IntKind.wrap_i64]; omega
  unfold execOp; rw [hop]
  simp [convert, hf.ev hx, run_underlying hS, run_underlying hT, Conv.intToInt, wr]
/-- A text held against another, the answer known. -/
theorem neSV {tx ty : TypeId} {p q : ByteArray} {b : Bool} (hop : o.op = .binOp .neq tx x y ty) (hx : ev L x = some (.string p)) (hy : ev L y = some (.string q)) (hb : (!(p.toList == q.toList)) = b) : Yd P N B o (.bool b) L its ps := hb ▸ neS hop hx hy
end Y
end
end Go.Proofs.YthmgiagecgkmiaaDoorW.SL
