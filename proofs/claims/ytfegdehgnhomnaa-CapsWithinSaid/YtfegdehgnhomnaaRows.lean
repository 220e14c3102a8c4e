/-
  No cell of these rows narrows 'for every input' (looked for: loops, veiled, ifaces, maps, wideKeys, modest, calm, conditions, laid).
  DERIVED. THE GIVEN ROWS OF THIS SEAT. 4 by the template 'for every input the law returns true; each argument reads behind the call as it read before'; 0 by the template 'total and deterministic' (their statements: YtfegdehgnhomnaaTotals.lean).
  GIVEN WITH THE SEED: the statements are not yours to turn. If you find one false, say at which input.
  Laid BY PROGRAM, IN A SANDBOX (cutbox-rows.mjs): the forced cells as the released guide's own fill.sh prints them over the translation e37c7ba7110f9d96… (all of the seat's roots in one cut). By AI agents, Wed Nov 11 2026. No macro, syntax, notation, axiom, sorry.
-/
import Derived.Test.YtfegdehgnhomnaaChecked
import GoSem.Claim
import GoSem.ClaimJoined
import GoSem.ClaimMapViews
import Derived.JoinedTies
import Derived.KernelRfl
namespace Go.Proofs.Ytfegdehgnhomnaa
/- THE CELL 'sum', in the pinned program and in every row, IS THE sha256 OF THE DUMP (.gsa) THAT YtfegdehgnhomnaaProg.lean LOADS. Nothing in Lean hashes anything: it is a label: what it is worth is what the hold of that sum in a sandbox is worth. -/
noncomputable def Try.pinned : Pinned := { name := "ytfegdehgnhomnaa", sum := "e37c7ba7110f9d967ae5187e6d781b7de4e565bc3e636044678879bb5adf32c3", checked := Try.checked }
namespace Rows
def none {H : Type} : Left H := { results := [], args := [] }

/-- 'onionskinlaw12.CapsWithin': WHATEVER THE INPUT: true; the input reads as it did. -/
def capsWithinSpec : ChangeSpec := { name := "capsWithin", fn := fun _ => fun
  | [d] => { results := [.lit (.bool true)], args := [d] }
  | _ => none }
def capsWithinRow : OpenClaim := { program := "ytfegdehgnhomnaa", sum := "e37c7ba7110f9d967ae5187e6d781b7de4e565bc3e636044678879bb5adf32c3", func := "onionskin/onionskinlaw12.CapsWithin", spec := "capsWithin", unfollowed := true, recurses := true, apart := false }
def CapsWithinSaid : Prop := capsWithinRow.holds Try.pinned (OpenSpec.ofChange capsWithinSpec)

/-- ITS FALSE NEIGHBOUR: 'it returns false'. Refute it at one input. -/
def capsWithinWrong : ChangeSpec := { name := "capsWithin", fn := fun _ => fun
  | [d] => { results := [.lit (.bool false)], args := [d] }
  | _ => none }
def CapsWithinWrongFalsely : Prop := capsWithinRow.holds Try.pinned (OpenSpec.ofChange capsWithinWrong)

/-- 'onionskinlaw12.CapsPlay': WHATEVER THE INPUT: true; the input reads as it did. -/
def capsPlaySpec : ChangeSpec := { name := "capsPlay", fn := fun _ => fun
  | [d1, d2, d3] => { results := [.lit (.bool true)], args := [d1, d2, d3] }
  | _ => none }
def capsPlayRow : OpenClaim := { program := "ytfegdehgnhomnaa", sum := "e37c7ba7110f9d967ae5187e6d781b7de4e565bc3e636044678879bb5adf32c3", func := "onionskin/onionskinlaw12.CapsPlay", spec := "capsPlay", unfollowed := true, recurses := true, apart := false }
def CapsPlaySaid : Prop := capsPlayRow.holds Try.pinned (OpenSpec.ofChange capsPlaySpec)

/-- ITS FALSE NEIGHBOUR: 'it returns false'. Refute it at one input. -/
def capsPlayWrong : ChangeSpec := { name := "capsPlay", fn := fun _ => fun
  | [d1, d2, d3] => { results := [.lit (.bool false)], args := [d1, d2, d3] }
  | _ => none }
def CapsPlayWrongFalsely : Prop := capsPlayRow.holds Try.pinned (OpenSpec.ofChange capsPlayWrong)

/-- 'onionskinlaw12.CapsOver': WHATEVER THE INPUT: true; the input reads as it did. -/
def capsOverSpec : ChangeSpec := { name := "capsOver", fn := fun _ => fun
  | [d1, d2] => { results := [.lit (.bool true)], args := [d1, d2] }
  | _ => none }
def capsOverRow : OpenClaim := { program := "ytfegdehgnhomnaa", sum := "e37c7ba7110f9d967ae5187e6d781b7de4e565bc3e636044678879bb5adf32c3", func := "onionskin/onionskinlaw12.CapsOver", spec := "capsOver", unfollowed := true, recurses := true, apart := false }
def CapsOverSaid : Prop := capsOverRow.holds Try.pinned (OpenSpec.ofChange capsOverSpec)

/-- ITS FALSE NEIGHBOUR: 'it returns false'. Refute it at one input. -/
def capsOverWrong : ChangeSpec := { name := "capsOver", fn := fun _ => fun
  | [d1, d2] => { results := [.lit (.bool false)], args := [d1, d2] }
  | _ => none }
def CapsOverWrongFalsely : Prop := capsOverRow.holds Try.pinned (OpenSpec.ofChange capsOverWrong)

/-- 'onionskinlaw12.CapsNone': WHATEVER THE INPUT: true; the input reads as it did. -/
def capsNoneSpec : ChangeSpec := { name := "capsNone", fn := fun _ => fun
  | [d1, d2] => { results := [.lit (.bool true)], args := [d1, d2] }
  | _ => none }
def capsNoneRow : OpenClaim := { program := "ytfegdehgnhomnaa", sum := "e37c7ba7110f9d967ae5187e6d781b7de4e565bc3e636044678879bb5adf32c3", func := "onionskin/onionskinlaw12.CapsNone", spec := "capsNone", unfollowed := true, recurses := true, apart := false }
def CapsNoneSaid : Prop := capsNoneRow.holds Try.pinned (OpenSpec.ofChange capsNoneSpec)

/-- ITS FALSE NEIGHBOUR: 'it returns false'. Refute it at one input. -/
def capsNoneWrong : ChangeSpec := { name := "capsNone", fn := fun _ => fun
  | [d1, d2] => { results := [.lit (.bool false)], args := [d1, d2] }
  | _ => none }
def CapsNoneWrongFalsely : Prop := capsNoneRow.holds Try.pinned (OpenSpec.ofChange capsNoneWrong)

/- THE SECOND FORM. 'bulk': how many values and letters a reading holds, each counted each time it is reached (what is shared counts as often as it is met; a slice's spare places count too). A statement '..UptoSaid' is the law's where the arguments, and the package variables that the reading takes, are together of bulk at most 1048576: NARROWER than '..Said'. Prove '..Said' where nothing that the law and all that it calls make is longer than what came in: it says more and counts as full. Else prove '..UptoSaid'. A law counts once. -/
mutual
def uptoBulk {H : Type} : DataW H → Nat
  | .lit (.string bytes) => bytes.length + 1
  | .lit _ => 1
  | .nil => 1
  | .ptr d => uptoBulk d + 1
  | .slice elems spare => uptoBulkAll elems + uptoBulkAll spare + 1
  | .agg parts => uptoBulkAll parts + 1
  | .iface _ d => uptoBulk d + 1
  | .map entries => uptoBulkEntries entries + 1
  | .held _ => 1
def uptoBulkAll {H : Type} : List (DataW H) → Nat
  | [] => 0
  | d :: r => uptoBulk d + uptoBulkAll r
def uptoBulkEntries {H : Type} : List (Lit × DataW H) → Nat
  | [] => 0
  | x :: r => uptoBulkEntry x + uptoBulkEntries r
def uptoBulkEntry {H : Type} : Lit × DataW H → Nat
  | (.string bytes, d) => bytes.length + uptoBulk d + 1
  | (_, d) => uptoBulk d + 1
 end
def uptoSmall : (H : Type) → List (DataW H) → Bool := fun _ ds => decide (uptoBulkAll ds ≤ 1048576)
def OpenSpec.upto (s : _root_.Go.ChangeSpec) : _root_.Go.OpenSpec := { _root_.Go.OpenSpec.ofChange s with cond := some uptoSmall }

/-- 'onionskinlaw12.CapsWithin', WHERE WHAT IT READS IS OF BULK AT MOST 1048576: true; the input reads as it did. -/
def capsWithinUptoRow : OpenClaim := { program := "ytfegdehgnhomnaa", sum := "e37c7ba7110f9d967ae5187e6d781b7de4e565bc3e636044678879bb5adf32c3", func := "onionskin/onionskinlaw12.CapsWithin", spec := "capsWithin", unfollowed := true, recurses := true, apart := false, narrowed := true }
def CapsWithinUptoSaid : Prop := capsWithinUptoRow.holds Try.pinned (OpenSpec.upto capsWithinSpec)

/-- 'onionskinlaw12.CapsPlay', WHERE WHAT IT READS IS OF BULK AT MOST 1048576: true; the input reads as it did. -/
def capsPlayUptoRow : OpenClaim := { program := "ytfegdehgnhomnaa", sum := "e37c7ba7110f9d967ae5187e6d781b7de4e565bc3e636044678879bb5adf32c3", func := "onionskin/onionskinlaw12.CapsPlay", spec := "capsPlay", unfollowed := true, recurses := true, apart := false, narrowed := true }
def CapsPlayUptoSaid : Prop := capsPlayUptoRow.holds Try.pinned (OpenSpec.upto capsPlaySpec)

/-- 'onionskinlaw12.CapsOver', WHERE WHAT IT READS IS OF BULK AT MOST 1048576: true; the input reads as it did. -/
def capsOverUptoRow : OpenClaim := { program := "ytfegdehgnhomnaa", sum := "e37c7ba7110f9d967ae5187e6d781b7de4e565bc3e636044678879bb5adf32c3", func := "onionskin/onionskinlaw12.CapsOver", spec := "capsOver", unfollowed := true, recurses := true, apart := false, narrowed := true }
def CapsOverUptoSaid : Prop := capsOverUptoRow.holds Try.pinned (OpenSpec.upto capsOverSpec)

/-- 'onionskinlaw12.CapsNone', WHERE WHAT IT READS IS OF BULK AT MOST 1048576: true; the input reads as it did. -/
def capsNoneUptoRow : OpenClaim := { program := "ytfegdehgnhomnaa", sum := "e37c7ba7110f9d967ae5187e6d781b7de4e565bc3e636044678879bb5adf32c3", func := "onionskin/onionskinlaw12.CapsNone", spec := "capsNone", unfollowed := true, recurses := true, apart := false, narrowed := true }
def CapsNoneUptoSaid : Prop := capsNoneUptoRow.holds Try.pinned (OpenSpec.upto capsNoneSpec)

end Rows
end Go.Proofs.Ytfegdehgnhomnaa
