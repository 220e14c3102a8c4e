/-
The law of the plays, joined with what came in.
-/
import Derived.Test.YtjejnlfbonpfaaaDoorSig12
import Derived.Test.YtjejnlfbonpfaaaDoorSigO
namespace Go.Proofs.YtjejnlfbonpfaaaDoor
end Go.Proofs.YtjejnlfbonpfaaaDoor
