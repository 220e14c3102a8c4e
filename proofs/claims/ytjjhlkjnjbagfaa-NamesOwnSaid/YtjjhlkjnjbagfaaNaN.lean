/-
Tables of names: the table that deeds make, by its name.
-/
import Derived.Test.YtjjhlkjnjbagfaaNa6
namespace Go.Proofs.Ytjjhlkjnjbagfaa
set_option linter.unusedVariables false
set_option linter.unusedSimpArgs false
open Eng
theorem made_cL (D : List Dn) (L : List Int) (hM : mkc D = L) (A0 : Option Addr) (c0 : Nat) (fr : List Chunk) (hrd0 : Rds fr A0 (D.flatMap Dn.cs)) (hx : D.length ≤ 9223372036854775807) :
    Does Try.prog 10 [.slice A0 D.length c0] fr (fun _ : Option Addr × Nat × Option Addr × Nat => True) (fun x => .tuple #[.agg #[.slice x.1 L.length x.2.1], .slice x.2.2.1 L.length x.2.2.2]) (fun x => own x.1 x.2.1 3 1 L.length (il L) :: own x.2.2.1 x.2.2.2 3 1 L.length (il L) :: fr) := by
  subst hM; exact made_c D A0 c0 fr hrd0 hx
end Go.Proofs.Ytjjhlkjnjbagfaa
