/-
What came in: bytes, and numbers.
-/
import Derived.Test.YtmfnjmmdchlkiaaIn12
import Derived.Test.YtmfnjmmdchlkiaaInO
namespace Go.Proofs.Ytmfnjmmdchlkiaa
set_option linter.unusedVariables false
set_option linter.unusedSimpArgs false
open Eng
end Go.Proofs.Ytmfnjmmdchlkiaa
