/-
The law of the kill, joined with what came in.
-/
import Derived.Test.YtjejnlfbonpfaaaDoorSig10
import Derived.Test.YtjejnlfbonpfaaaDoorSigO
namespace Go.Proofs.YtjejnlfbonpfaaaDoor
end Go.Proofs.YtjejnlfbonpfaaaDoor
