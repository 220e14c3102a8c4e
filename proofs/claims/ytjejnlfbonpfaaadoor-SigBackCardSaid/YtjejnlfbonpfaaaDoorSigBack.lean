/-
The law of what comes back, joined with what came in.
-/
import Derived.Test.YtjejnlfbonpfaaaDoorSig11
import Derived.Test.YtjejnlfbonpfaaaDoorSigO
namespace Go.Proofs.YtjejnlfbonpfaaaDoor
end Go.Proofs.YtjejnlfbonpfaaaDoor
