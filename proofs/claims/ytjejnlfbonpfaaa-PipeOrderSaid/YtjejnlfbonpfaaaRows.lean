/-
  No cell of these rows narrows 'for every input' (looked for: loops, veiled, ifaces, maps, wideKeys, modest, calm, conditions, laid).
  DERIVED. THE GIVEN ROWS OF THIS SEAT. 9 by the template 'for every input the law returns true; each argument reads behind the call as it read before'; 0 by the template 'total and deterministic' (their statements: YtjejnlfbonpfaaaTotals.lean).
  GIVEN WITH THE SEED: the statements are not yours to turn. If you find one false, say at which input.
  Laid BY PROGRAM, IN A SANDBOX (cutbox-rows.mjs): the forced cells as the released guide's own fill.sh prints them over the translation e74535ab1e868a61… (all of the seat's roots in one cut). By AI agents, Wed Nov 11 2026. No macro, syntax, notation, axiom, sorry.
-/
import Derived.Test.YtjejnlfbonpfaaaChecked
import GoSem.Claim
import GoSem.ClaimJoined
import GoSem.ClaimMapViews
import Derived.JoinedTies
import Derived.KernelRfl
namespace Go.Proofs.Ytjejnlfbonpfaaa
/- THE CELL 'sum', in the pinned program and in every row, IS THE sha256 OF THE DUMP (.gsa) THAT YtjejnlfbonpfaaaProg.lean LOADS. Nothing in Lean hashes anything: it is a label: what it is worth is what the hold of that sum in a sandbox is worth. -/
noncomputable def Try.pinned : Pinned := { name := "ytjejnlfbonpfaaa", sum := "e74535ab1e868a6141247befecfb69581c9b401ed3bd91a69ec01f73a4143a48", checked := Try.checked }
namespace Rows
def none {H : Type} : Left H := { results := [], args := [] }

/-- 'onionskinlaw24.BitmapFills': WHATEVER THE INPUT: true; the input reads as it did. -/
def bitmapFillsSpec : ChangeSpec := { name := "bitmapFills", fn := fun _ => fun
  | [d1, d2, d3] => { results := [.lit (.bool true)], args := [d1, d2, d3] }
  | _ => none }
def bitmapFillsRow : OpenClaim := { program := "ytjejnlfbonpfaaa", sum := "e74535ab1e868a6141247befecfb69581c9b401ed3bd91a69ec01f73a4143a48", func := "onionskin/onionskinlaw24.BitmapFills", spec := "bitmapFills", apart := false }
def BitmapFillsSaid : Prop := bitmapFillsRow.holds Try.pinned (OpenSpec.ofChange bitmapFillsSpec)

/-- ITS FALSE NEIGHBOUR: 'it returns false'. Refute it at one input. -/
def bitmapFillsWrong : ChangeSpec := { name := "bitmapFills", fn := fun _ => fun
  | [d1, d2, d3] => { results := [.lit (.bool false)], args := [d1, d2, d3] }
  | _ => none }
def BitmapFillsWrongFalsely : Prop := bitmapFillsRow.holds Try.pinned (OpenSpec.ofChange bitmapFillsWrong)

/-- 'onionskinlaw09.PortOrder': WHATEVER THE INPUT: true; the input reads as it did. -/
def portOrderSpec : ChangeSpec := { name := "portOrder", fn := fun _ => fun
  | [d1, d2] => { results := [.lit (.bool true)], args := [d1, d2] }
  | _ => none }
def portOrderRow : OpenClaim := { program := "ytjejnlfbonpfaaa", sum := "e74535ab1e868a6141247befecfb69581c9b401ed3bd91a69ec01f73a4143a48", func := "onionskin/onionskinlaw09.PortOrder", spec := "portOrder", apart := false }
def PortOrderSaid : Prop := portOrderRow.holds Try.pinned (OpenSpec.ofChange portOrderSpec)

/-- ITS FALSE NEIGHBOUR: 'it returns false'. Refute it at one input. -/
def portOrderWrong : ChangeSpec := { name := "portOrder", fn := fun _ => fun
  | [d1, d2] => { results := [.lit (.bool false)], args := [d1, d2] }
  | _ => none }
def PortOrderWrongFalsely : Prop := portOrderRow.holds Try.pinned (OpenSpec.ofChange portOrderWrong)

/-- 'onionskinlaw24.BitmapPlays': WHATEVER THE INPUT: true; the input reads as it did. -/
def bitmapPlaysSpec : ChangeSpec := { name := "bitmapPlays", fn := fun _ => fun
  | [d1, d2, d3, d4] => { results := [.lit (.bool true)], args := [d1, d2, d3, d4] }
  | _ => none }
def bitmapPlaysRow : OpenClaim := { program := "ytjejnlfbonpfaaa", sum := "e74535ab1e868a6141247befecfb69581c9b401ed3bd91a69ec01f73a4143a48", func := "onionskin/onionskinlaw24.BitmapPlays", spec := "bitmapPlays", apart := false }
def BitmapPlaysSaid : Prop := bitmapPlaysRow.holds Try.pinned (OpenSpec.ofChange bitmapPlaysSpec)

/-- ITS FALSE NEIGHBOUR: 'it returns false'. Refute it at one input. -/
def bitmapPlaysWrong : ChangeSpec := { name := "bitmapPlays", fn := fun _ => fun
  | [d1, d2, d3, d4] => { results := [.lit (.bool false)], args := [d1, d2, d3, d4] }
  | _ => none }
def BitmapPlaysWrongFalsely : Prop := bitmapPlaysRow.holds Try.pinned (OpenSpec.ofChange bitmapPlaysWrong)

/-- 'onionskinlaw24.BitmapBack': WHATEVER THE INPUT: true; the input reads as it did. -/
def bitmapBackSpec : ChangeSpec := { name := "bitmapBack", fn := fun _ => fun
  | [d1, d2] => { results := [.lit (.bool true)], args := [d1, d2] }
  | _ => none }
def bitmapBackRow : OpenClaim := { program := "ytjejnlfbonpfaaa", sum := "e74535ab1e868a6141247befecfb69581c9b401ed3bd91a69ec01f73a4143a48", func := "onionskin/onionskinlaw24.BitmapBack", spec := "bitmapBack", apart := false }
def BitmapBackSaid : Prop := bitmapBackRow.holds Try.pinned (OpenSpec.ofChange bitmapBackSpec)

/-- ITS FALSE NEIGHBOUR: 'it returns false'. Refute it at one input. -/
def bitmapBackWrong : ChangeSpec := { name := "bitmapBack", fn := fun _ => fun
  | [d1, d2] => { results := [.lit (.bool false)], args := [d1, d2] }
  | _ => none }
def BitmapBackWrongFalsely : Prop := bitmapBackRow.holds Try.pinned (OpenSpec.ofChange bitmapBackWrong)

/-- 'onionskinlaw35.PipeOrder': WHATEVER THE INPUT: true; the input reads as it did. -/
def pipeOrderSpec : ChangeSpec := { name := "pipeOrder", fn := fun _ => fun
  | [d] => { results := [.lit (.bool true)], args := [d] }
  | _ => none }
def pipeOrderRow : OpenClaim := { program := "ytjejnlfbonpfaaa", sum := "e74535ab1e868a6141247befecfb69581c9b401ed3bd91a69ec01f73a4143a48", func := "onionskin/onionskinlaw35.PipeOrder", spec := "pipeOrder", apart := false }
def PipeOrderSaid : Prop := pipeOrderRow.holds Try.pinned (OpenSpec.ofChange pipeOrderSpec)

/-- ITS FALSE NEIGHBOUR: 'it returns false'. Refute it at one input. -/
def pipeOrderWrong : ChangeSpec := { name := "pipeOrder", fn := fun _ => fun
  | [d] => { results := [.lit (.bool false)], args := [d] }
  | _ => none }
def PipeOrderWrongFalsely : Prop := pipeOrderRow.holds Try.pinned (OpenSpec.ofChange pipeOrderWrong)

/-- 'onionskinlaw09.PortPlays': WHATEVER THE INPUT: true; the input reads as it did. -/
def portPlaysSpec : ChangeSpec := { name := "portPlays", fn := fun _ => fun
  | [d] => { results := [.lit (.bool true)], args := [d] }
  | _ => none }
def portPlaysRow : OpenClaim := { program := "ytjejnlfbonpfaaa", sum := "e74535ab1e868a6141247befecfb69581c9b401ed3bd91a69ec01f73a4143a48", func := "onionskin/onionskinlaw09.PortPlays", spec := "portPlays", apart := false }
def PortPlaysSaid : Prop := portPlaysRow.holds Try.pinned (OpenSpec.ofChange portPlaysSpec)

/-- ITS FALSE NEIGHBOUR: 'it returns false'. Refute it at one input. -/
def portPlaysWrong : ChangeSpec := { name := "portPlays", fn := fun _ => fun
  | [d] => { results := [.lit (.bool false)], args := [d] }
  | _ => none }
def PortPlaysWrongFalsely : Prop := portPlaysRow.holds Try.pinned (OpenSpec.ofChange portPlaysWrong)

/-- 'onionskinlaw09.PortNone': WHATEVER THE INPUT: true; the input reads as it did. -/
def portNoneSpec : ChangeSpec := { name := "portNone", fn := fun _ => fun
  | [d] => { results := [.lit (.bool true)], args := [d] }
  | _ => none }
def portNoneRow : OpenClaim := { program := "ytjejnlfbonpfaaa", sum := "e74535ab1e868a6141247befecfb69581c9b401ed3bd91a69ec01f73a4143a48", func := "onionskin/onionskinlaw09.PortNone", spec := "portNone", apart := false }
def PortNoneSaid : Prop := portNoneRow.holds Try.pinned (OpenSpec.ofChange portNoneSpec)

/-- ITS FALSE NEIGHBOUR: 'it returns false'. Refute it at one input. -/
def portNoneWrong : ChangeSpec := { name := "portNone", fn := fun _ => fun
  | [d] => { results := [.lit (.bool false)], args := [d] }
  | _ => none }
def PortNoneWrongFalsely : Prop := portNoneRow.holds Try.pinned (OpenSpec.ofChange portNoneWrong)

/-- 'onionskinlaw35.PipePlays': WHATEVER THE INPUT: true; the input reads as it did. -/
def pipePlaysSpec : ChangeSpec := { name := "pipePlays", fn := fun _ => fun
  | [d] => { results := [.lit (.bool true)], args := [d] }
  | _ => none }
def pipePlaysRow : OpenClaim := { program := "ytjejnlfbonpfaaa", sum := "e74535ab1e868a6141247befecfb69581c9b401ed3bd91a69ec01f73a4143a48", func := "onionskin/onionskinlaw35.PipePlays", spec := "pipePlays", apart := false }
def PipePlaysSaid : Prop := pipePlaysRow.holds Try.pinned (OpenSpec.ofChange pipePlaysSpec)

/-- ITS FALSE NEIGHBOUR: 'it returns false'. Refute it at one input. -/
def pipePlaysWrong : ChangeSpec := { name := "pipePlays", fn := fun _ => fun
  | [d] => { results := [.lit (.bool false)], args := [d] }
  | _ => none }
def PipePlaysWrongFalsely : Prop := pipePlaysRow.holds Try.pinned (OpenSpec.ofChange pipePlaysWrong)

/-- 'onionskinlaw35.PipeNone': WHATEVER THE INPUT: true; the input reads as it did. -/
def pipeNoneSpec : ChangeSpec := { name := "pipeNone", fn := fun _ => fun
  | [d] => { results := [.lit (.bool true)], args := [d] }
  | _ => none }
def pipeNoneRow : OpenClaim := { program := "ytjejnlfbonpfaaa", sum := "e74535ab1e868a6141247befecfb69581c9b401ed3bd91a69ec01f73a4143a48", func := "onionskin/onionskinlaw35.PipeNone", spec := "pipeNone", apart := false }
def PipeNoneSaid : Prop := pipeNoneRow.holds Try.pinned (OpenSpec.ofChange pipeNoneSpec)

/-- ITS FALSE NEIGHBOUR: 'it returns false'. Refute it at one input. -/
def pipeNoneWrong : ChangeSpec := { name := "pipeNone", fn := fun _ => fun
  | [d] => { results := [.lit (.bool false)], args := [d] }
  | _ => none }
def PipeNoneWrongFalsely : Prop := pipeNoneRow.holds Try.pinned (OpenSpec.ofChange pipeNoneWrong)

/- THE SECOND FORM. 'bulk': how many values and letters a reading holds, each counted each time it is reached (what is shared counts as often as it is met; a slice's spare places count too). A statement '..UptoSaid' is the law's where the arguments, and the package variables that the reading takes, are together of bulk at most 1048576: NARROWER than '..Said'. Prove '..Said' where nothing that the law and all that it calls make is longer than what came in: it says more and counts as full. Else prove '..UptoSaid'. A law counts once. -/
mutual
def uptoBulk {H : Type} : DataW H → Nat
  | .lit (.string bytes) => bytes.length + 1
  | .lit _ => 1
  | .nil => 1
  | .ptr d => uptoBulk d + 1
  | .slice elems spare => uptoBulkAll elems + uptoBulkAll spare + 1
  | .agg parts => uptoBulkAll parts + 1
  | .iface _ d => uptoBulk d + 1
  | .map entries => uptoBulkEntries entries + 1
  | .held _ => 1
def uptoBulkAll {H : Type} : List (DataW H) → Nat
  | [] => 0
  | d :: r => uptoBulk d + uptoBulkAll r
def uptoBulkEntries {H : Type} : List (Lit × DataW H) → Nat
  | [] => 0
  | x :: r => uptoBulkEntry x + uptoBulkEntries r
def uptoBulkEntry {H : Type} : Lit × DataW H → Nat
  | (.string bytes, d) => bytes.length + uptoBulk d + 1
  | (_, d) => uptoBulk d + 1
 end
def uptoSmall : (H : Type) → List (DataW H) → Bool := fun _ ds => decide (uptoBulkAll ds ≤ 1048576)
def OpenSpec.upto (s : _root_.Go.ChangeSpec) : _root_.Go.OpenSpec := { _root_.Go.OpenSpec.ofChange s with cond := some uptoSmall }

/-- 'onionskinlaw24.BitmapFills', WHERE WHAT IT READS IS OF BULK AT MOST 1048576: true; the input reads as it did. -/
def bitmapFillsUptoRow : OpenClaim := { program := "ytjejnlfbonpfaaa", sum := "e74535ab1e868a6141247befecfb69581c9b401ed3bd91a69ec01f73a4143a48", func := "onionskin/onionskinlaw24.BitmapFills", spec := "bitmapFills", apart := false, narrowed := true }
def BitmapFillsUptoSaid : Prop := bitmapFillsUptoRow.holds Try.pinned (OpenSpec.upto bitmapFillsSpec)

/-- 'onionskinlaw09.PortOrder', WHERE WHAT IT READS IS OF BULK AT MOST 1048576: true; the input reads as it did. -/
def portOrderUptoRow : OpenClaim := { program := "ytjejnlfbonpfaaa", sum := "e74535ab1e868a6141247befecfb69581c9b401ed3bd91a69ec01f73a4143a48", func := "onionskin/onionskinlaw09.PortOrder", spec := "portOrder", apart := false, narrowed := true }
def PortOrderUptoSaid : Prop := portOrderUptoRow.holds Try.pinned (OpenSpec.upto portOrderSpec)

/-- 'onionskinlaw24.BitmapPlays', WHERE WHAT IT READS IS OF BULK AT MOST 1048576: true; the input reads as it did. -/
def bitmapPlaysUptoRow : OpenClaim := { program := "ytjejnlfbonpfaaa", sum := "e74535ab1e868a6141247befecfb69581c9b401ed3bd91a69ec01f73a4143a48", func := "onionskin/onionskinlaw24.BitmapPlays", spec := "bitmapPlays", apart := false, narrowed := true }
def BitmapPlaysUptoSaid : Prop := bitmapPlaysUptoRow.holds Try.pinned (OpenSpec.upto bitmapPlaysSpec)

/-- 'onionskinlaw24.BitmapBack', WHERE WHAT IT READS IS OF BULK AT MOST 1048576: true; the input reads as it did. -/
def bitmapBackUptoRow : OpenClaim := { program := "ytjejnlfbonpfaaa", sum := "e74535ab1e868a6141247befecfb69581c9b401ed3bd91a69ec01f73a4143a48", func := "onionskin/onionskinlaw24.BitmapBack", spec := "bitmapBack", apart := false, narrowed := true }
def BitmapBackUptoSaid : Prop := bitmapBackUptoRow.holds Try.pinned (OpenSpec.upto bitmapBackSpec)

/-- 'onionskinlaw35.PipeOrder', WHERE WHAT IT READS IS OF BULK AT MOST 1048576: true; the input reads as it did. -/
def pipeOrderUptoRow : OpenClaim := { program := "ytjejnlfbonpfaaa", sum := "e74535ab1e868a6141247befecfb69581c9b401ed3bd91a69ec01f73a4143a48", func := "onionskin/onionskinlaw35.PipeOrder", spec := "pipeOrder", apart := false, narrowed := true }
def PipeOrderUptoSaid : Prop := pipeOrderUptoRow.holds Try.pinned (OpenSpec.upto pipeOrderSpec)

/-- 'onionskinlaw09.PortPlays', WHERE WHAT IT READS IS OF BULK AT MOST 1048576: true; the input reads as it did. -/
def portPlaysUptoRow : OpenClaim := { program := "ytjejnlfbonpfaaa", sum := "e74535ab1e868a6141247befecfb69581c9b401ed3bd91a69ec01f73a4143a48", func := "onionskin/onionskinlaw09.PortPlays", spec := "portPlays", apart := false, narrowed := true }
def PortPlaysUptoSaid : Prop := portPlaysUptoRow.holds Try.pinned (OpenSpec.upto portPlaysSpec)

/-- 'onionskinlaw09.PortNone', WHERE WHAT IT READS IS OF BULK AT MOST 1048576: true; the input reads as it did. -/
def portNoneUptoRow : OpenClaim := { program := "ytjejnlfbonpfaaa", sum := "e74535ab1e868a6141247befecfb69581c9b401ed3bd91a69ec01f73a4143a48", func := "onionskin/onionskinlaw09.PortNone", spec := "portNone", apart := false, narrowed := true }
def PortNoneUptoSaid : Prop := portNoneUptoRow.holds Try.pinned (OpenSpec.upto portNoneSpec)

/-- 'onionskinlaw35.PipePlays', WHERE WHAT IT READS IS OF BULK AT MOST 1048576: true; the input reads as it did. -/
def pipePlaysUptoRow : OpenClaim := { program := "ytjejnlfbonpfaaa", sum := "e74535ab1e868a6141247befecfb69581c9b401ed3bd91a69ec01f73a4143a48", func := "onionskin/onionskinlaw35.PipePlays", spec := "pipePlays", apart := false, narrowed := true }
def PipePlaysUptoSaid : Prop := pipePlaysUptoRow.holds Try.pinned (OpenSpec.upto pipePlaysSpec)

/-- 'onionskinlaw35.PipeNone', WHERE WHAT IT READS IS OF BULK AT MOST 1048576: true; the input reads as it did. -/
def pipeNoneUptoRow : OpenClaim := { program := "ytjejnlfbonpfaaa", sum := "e74535ab1e868a6141247befecfb69581c9b401ed3bd91a69ec01f73a4143a48", func := "onionskin/onionskinlaw35.PipeNone", spec := "pipeNone", apart := false, narrowed := true }
def PipeNoneUptoSaid : Prop := pipeNoneUptoRow.holds Try.pinned (OpenSpec.upto pipeNoneSpec)

end Rows
end Go.Proofs.Ytjejnlfbonpfaaa
