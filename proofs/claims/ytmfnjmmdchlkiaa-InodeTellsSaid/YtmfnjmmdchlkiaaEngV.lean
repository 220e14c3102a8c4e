/-
The engine, another part: guards by a region's number.
-/
import Derived.Test.YtmfnjmmdchlkiaaEngT
namespace Go.Proofs.Ytmfnjmmdchlkiaa.Eng
set_option linter.unusedVariables false
set_option linter.unusedSimpArgs false
open Go
section
variable {P : Program} {n : Nat} {l : Fr} {B : Base} {hp : List Chunk} {Q : Exit → Act → World → Prop}
/-- A guard: only where this region begins, with more behind it. -/
theorem s_isreg (id : Nat) {os : Array Oper} {dr : Bool} {c y : Code} (h : S n l B hp (Code.wp P (.seq (.seq (.region id os dr) c) y) Q)) : S n l B hp (Code.wp P (.seq (.seq (.region id os dr) c) y) Q) := h
theorem s_isreg1 (id : Nat) {os : Array Oper} {dr : Bool} {y : Code} (h : S n l B hp (Code.wp P (.seq (.region id os dr) y) Q)) : S n l B hp (Code.wp P (.seq (.region id os dr) y) Q) := h
end
end Go.Proofs.Ytmfnjmmdchlkiaa.Eng
