/-
The engine, another part: guards by a region's number.
-/
import Derived.Test.YtnckabgaichkkaaEngT
namespace Go.Proofs.Ytnckabgaichkkaa.Eng
set_option linter.unusedVariables false
set_option linter.unusedSimpArgs false
open Go
section
variable {P : Program} {n : Nat} {l : Fr} {B : Base} {hp : List Chunk} {Q : Exit → Act → World → Prop}
/-- A guard: only where this region begins, with more behind it. -/
theorem s_isreg (id : Nat) {os : Array Oper} {dr : Bool} {c y : Code} (h : S n l B hp (Code.wp P (.seq (.seq (.region id os dr) c) y) Q)) : S n l B hp (Code.wp P (.seq (.seq (.region id os dr) c) y) Q) := h
theorem s_isreg1 (id : Nat) {os : Array Oper} {dr : Bool} {y : Code} (h : S n l B hp (Code.wp P (.seq (.region id os dr) y) Q)) : S n l B hp (Code.wp P (.seq (.region id os dr) y) Q) := h
section
variable {ops : Array Oper} {md : Mode} {rest : List Oper} {d : Nat} {ty : TypeId} {pos : String} {aft : Array Edge}
/-- An array's element, of m cells, the array at the beginning of its block. -/
theorem o_indexm {t e b len s by_ kb m : Nat} {re : TKind} {k : IntKind} {i : Int} {tab : List TRow} (hT : TabOk P tab) {x y : Operand} (hx : ev l x = some (.pointer (some ⟨b, 0, none⟩))) (hy : ev l y = some (.int k i))
    (ht : nth tab t = some ⟨.arr len e, s, by_⟩) (hr : nth tab e = some ⟨re, m, kb⟩) (h0 : 0 ≤ i) (h1 : i < len) (hd : d < n) (kk : Z P ops md n ((d, .pointer (some ⟨b, i.toNat * m, none⟩)) :: l) B hp rest) :
    Z P ops md n l B hp (⟨some d, .indexAddr t x y, ty, pos, aft, none⟩ :: rest) :=
  o_indexn hT hx hy ht hr h0 h1 hd (by simpa using kk)
end
end
end Go.Proofs.Ytnckabgaichkkaa.Eng
