/-
  No cell of these rows narrows 'for every input' (looked for: loops, veiled, ifaces, maps, wideKeys, modest, calm, conditions, laid).
  DERIVED. THE GIVEN ROWS OF THIS SEAT. 8 by the template 'for every input the law returns true; each argument reads behind the call as it read before'; 0 by the template 'total and deterministic' (their statements: YtmfnjmmdchlkiaaTotals.lean).
  GIVEN WITH THE SEED: the statements are not yours to turn. If you find one false, say at which input.
  Laid BY PROGRAM, IN A SANDBOX (cutbox-rows.mjs): the forced cells as the released guide's own fill.sh prints them over the translation ce1ed5bdb98ee2f7… (all of the seat's roots in one cut). By AI agents, Wed Nov 11 2026. No macro, syntax, notation, axiom, sorry.
-/
import Derived.Test.YtmfnjmmdchlkiaaChecked
import GoSem.Claim
import GoSem.ClaimJoined
import GoSem.ClaimMapViews
import Derived.JoinedTies
import Derived.KernelRfl
namespace Go.Proofs.Ytmfnjmmdchlkiaa
/- THE CELL 'sum', in the pinned program and in every row, IS THE sha256 OF THE DUMP (.gsa) THAT YtmfnjmmdchlkiaaProg.lean LOADS. Nothing in Lean hashes anything: it is a label: what it is worth is what the hold of that sum in a sandbox is worth. -/
noncomputable def Try.pinned : Pinned := { name := "ytmfnjmmdchlkiaa", sum := "ce1ed5bdb98ee2f786cd4c5c5c16ebbcb50b8e7ca4aed831aa70ebad0dbfc172", checked := Try.checked }
namespace Rows
def none {H : Type} : Left H := { results := [], args := [] }

/-- 'onionskinlaw25.InodeSizes': WHATEVER THE INPUT: true; the input reads as it did. -/
def inodeSizesSpec : ChangeSpec := { name := "inodeSizes", fn := fun _ => fun
  | [d] => { results := [.lit (.bool true)], args := [d] }
  | _ => none }
def inodeSizesRow : OpenClaim := { program := "ytmfnjmmdchlkiaa", sum := "ce1ed5bdb98ee2f786cd4c5c5c16ebbcb50b8e7ca4aed831aa70ebad0dbfc172", func := "onionskin/onionskinlaw25.InodeSizes", spec := "inodeSizes", apart := false }
def InodeSizesSaid : Prop := inodeSizesRow.holds Try.pinned (OpenSpec.ofChange inodeSizesSpec)

/-- ITS FALSE NEIGHBOUR: 'it returns false'. Refute it at one input. -/
def inodeSizesWrong : ChangeSpec := { name := "inodeSizes", fn := fun _ => fun
  | [d] => { results := [.lit (.bool false)], args := [d] }
  | _ => none }
def InodeSizesWrongFalsely : Prop := inodeSizesRow.holds Try.pinned (OpenSpec.ofChange inodeSizesWrong)

/-- 'onionskinlaw25.InodePuts': WHATEVER THE INPUT: true; the input reads as it did. -/
def inodePutsSpec : ChangeSpec := { name := "inodePuts", fn := fun _ => fun
  | [d1, d2, d3] => { results := [.lit (.bool true)], args := [d1, d2, d3] }
  | _ => none }
def inodePutsRow : OpenClaim := { program := "ytmfnjmmdchlkiaa", sum := "ce1ed5bdb98ee2f786cd4c5c5c16ebbcb50b8e7ca4aed831aa70ebad0dbfc172", func := "onionskin/onionskinlaw25.InodePuts", spec := "inodePuts", apart := false }
def InodePutsSaid : Prop := inodePutsRow.holds Try.pinned (OpenSpec.ofChange inodePutsSpec)

/-- ITS FALSE NEIGHBOUR: 'it returns false'. Refute it at one input. -/
def inodePutsWrong : ChangeSpec := { name := "inodePuts", fn := fun _ => fun
  | [d1, d2, d3] => { results := [.lit (.bool false)], args := [d1, d2, d3] }
  | _ => none }
def InodePutsWrongFalsely : Prop := inodePutsRow.holds Try.pinned (OpenSpec.ofChange inodePutsWrong)

/-- 'onionskinlaw25.InodeGets': WHATEVER THE INPUT: true; the input reads as it did. -/
def inodeGetsSpec : ChangeSpec := { name := "inodeGets", fn := fun _ => fun
  | [d1, d2] => { results := [.lit (.bool true)], args := [d1, d2] }
  | _ => none }
def inodeGetsRow : OpenClaim := { program := "ytmfnjmmdchlkiaa", sum := "ce1ed5bdb98ee2f786cd4c5c5c16ebbcb50b8e7ca4aed831aa70ebad0dbfc172", func := "onionskin/onionskinlaw25.InodeGets", spec := "inodeGets", apart := false }
def InodeGetsSaid : Prop := inodeGetsRow.holds Try.pinned (OpenSpec.ofChange inodeGetsSpec)

/-- ITS FALSE NEIGHBOUR: 'it returns false'. Refute it at one input. -/
def inodeGetsWrong : ChangeSpec := { name := "inodeGets", fn := fun _ => fun
  | [d1, d2] => { results := [.lit (.bool false)], args := [d1, d2] }
  | _ => none }
def InodeGetsWrongFalsely : Prop := inodeGetsRow.holds Try.pinned (OpenSpec.ofChange inodeGetsWrong)

/-- 'onionskinlaw25.InodeTells': WHATEVER THE INPUT: true; the input reads as it did. -/
def inodeTellsSpec : ChangeSpec := { name := "inodeTells", fn := fun _ => fun
  | [d1, d2, d3] => { results := [.lit (.bool true)], args := [d1, d2, d3] }
  | _ => none }
def inodeTellsRow : OpenClaim := { program := "ytmfnjmmdchlkiaa", sum := "ce1ed5bdb98ee2f786cd4c5c5c16ebbcb50b8e7ca4aed831aa70ebad0dbfc172", func := "onionskin/onionskinlaw25.InodeTells", spec := "inodeTells", apart := false }
def InodeTellsSaid : Prop := inodeTellsRow.holds Try.pinned (OpenSpec.ofChange inodeTellsSpec)

/-- ITS FALSE NEIGHBOUR: 'it returns false'. Refute it at one input. -/
def inodeTellsWrong : ChangeSpec := { name := "inodeTells", fn := fun _ => fun
  | [d1, d2, d3] => { results := [.lit (.bool false)], args := [d1, d2, d3] }
  | _ => none }
def InodeTellsWrongFalsely : Prop := inodeTellsRow.holds Try.pinned (OpenSpec.ofChange inodeTellsWrong)

/-- 'onionskinlaw37.ProcParents': WHATEVER THE INPUT: true; the input reads as it did. -/
def procParentsSpec : ChangeSpec := { name := "procParents", fn := fun _ => fun
  | [d] => { results := [.lit (.bool true)], args := [d] }
  | _ => none }
def procParentsRow : OpenClaim := { program := "ytmfnjmmdchlkiaa", sum := "ce1ed5bdb98ee2f786cd4c5c5c16ebbcb50b8e7ca4aed831aa70ebad0dbfc172", func := "onionskin/onionskinlaw37.ProcParents", spec := "procParents", apart := false }
def ProcParentsSaid : Prop := procParentsRow.holds Try.pinned (OpenSpec.ofChange procParentsSpec)

/-- ITS FALSE NEIGHBOUR: 'it returns false'. Refute it at one input. -/
def procParentsWrong : ChangeSpec := { name := "procParents", fn := fun _ => fun
  | [d] => { results := [.lit (.bool false)], args := [d] }
  | _ => none }
def ProcParentsWrongFalsely : Prop := procParentsRow.holds Try.pinned (OpenSpec.ofChange procParentsWrong)

/-- 'onionskinlaw37.ProcPlays': WHATEVER THE INPUT: true; the input reads as it did. -/
def procPlaysSpec : ChangeSpec := { name := "procPlays", fn := fun _ => fun
  | [d] => { results := [.lit (.bool true)], args := [d] }
  | _ => none }
def procPlaysRow : OpenClaim := { program := "ytmfnjmmdchlkiaa", sum := "ce1ed5bdb98ee2f786cd4c5c5c16ebbcb50b8e7ca4aed831aa70ebad0dbfc172", func := "onionskin/onionskinlaw37.ProcPlays", spec := "procPlays", apart := false }
def ProcPlaysSaid : Prop := procPlaysRow.holds Try.pinned (OpenSpec.ofChange procPlaysSpec)

/-- ITS FALSE NEIGHBOUR: 'it returns false'. Refute it at one input. -/
def procPlaysWrong : ChangeSpec := { name := "procPlays", fn := fun _ => fun
  | [d] => { results := [.lit (.bool false)], args := [d] }
  | _ => none }
def ProcPlaysWrongFalsely : Prop := procPlaysRow.holds Try.pinned (OpenSpec.ofChange procPlaysWrong)

/-- 'onionskinlaw37.ProcNone': WHATEVER THE INPUT: true; the input reads as it did. -/
def procNoneSpec : ChangeSpec := { name := "procNone", fn := fun _ => fun
  | [d] => { results := [.lit (.bool true)], args := [d] }
  | _ => none }
def procNoneRow : OpenClaim := { program := "ytmfnjmmdchlkiaa", sum := "ce1ed5bdb98ee2f786cd4c5c5c16ebbcb50b8e7ca4aed831aa70ebad0dbfc172", func := "onionskin/onionskinlaw37.ProcNone", spec := "procNone", apart := false }
def ProcNoneSaid : Prop := procNoneRow.holds Try.pinned (OpenSpec.ofChange procNoneSpec)

/-- ITS FALSE NEIGHBOUR: 'it returns false'. Refute it at one input. -/
def procNoneWrong : ChangeSpec := { name := "procNone", fn := fun _ => fun
  | [d] => { results := [.lit (.bool false)], args := [d] }
  | _ => none }
def ProcNoneWrongFalsely : Prop := procNoneRow.holds Try.pinned (OpenSpec.ofChange procNoneWrong)

/-- 'onionskinlaw34.FdsNone': WHATEVER THE INPUT: true; the input reads as it did. -/
def fdsNoneSpec : ChangeSpec := { name := "fdsNone", fn := fun _ => fun
  | [d] => { results := [.lit (.bool true)], args := [d] }
  | _ => none }
def fdsNoneRow : OpenClaim := { program := "ytmfnjmmdchlkiaa", sum := "ce1ed5bdb98ee2f786cd4c5c5c16ebbcb50b8e7ca4aed831aa70ebad0dbfc172", func := "onionskin/onionskinlaw34.FdsNone", spec := "fdsNone", apart := false }
def FdsNoneSaid : Prop := fdsNoneRow.holds Try.pinned (OpenSpec.ofChange fdsNoneSpec)

/-- ITS FALSE NEIGHBOUR: 'it returns false'. Refute it at one input. -/
def fdsNoneWrong : ChangeSpec := { name := "fdsNone", fn := fun _ => fun
  | [d] => { results := [.lit (.bool false)], args := [d] }
  | _ => none }
def FdsNoneWrongFalsely : Prop := fdsNoneRow.holds Try.pinned (OpenSpec.ofChange fdsNoneWrong)

/- THE SECOND FORM. 'bulk': how many values and letters a reading holds, each counted each time it is reached (what is shared counts as often as it is met; a slice's spare places count too). A statement '..UptoSaid' is the law's where the arguments, and the package variables that the reading takes, are together of bulk at most 1048576: NARROWER than '..Said'. Prove '..Said' where nothing that the law and all that it calls make is longer than what came in: it says more and counts as full. Else prove '..UptoSaid'. A law counts once. -/
mutual
def uptoBulk {H : Type} : DataW H → Nat
  | .lit (.string bytes) => bytes.length + 1
  | .lit _ => 1
  | .nil => 1
  | .ptr d => uptoBulk d + 1
  | .slice elems spare => uptoBulkAll elems + uptoBulkAll spare + 1
  | .agg parts => uptoBulkAll parts + 1
  | .iface _ d => uptoBulk d + 1
  | .map entries => uptoBulkEntries entries + 1
  | .held _ => 1
def uptoBulkAll {H : Type} : List (DataW H) → Nat
  | [] => 0
  | d :: r => uptoBulk d + uptoBulkAll r
def uptoBulkEntries {H : Type} : List (Lit × DataW H) → Nat
  | [] => 0
  | x :: r => uptoBulkEntry x + uptoBulkEntries r
def uptoBulkEntry {H : Type} : Lit × DataW H → Nat
  | (.string bytes, d) => bytes.length + uptoBulk d + 1
  | (_, d) => uptoBulk d + 1
 end
def uptoSmall : (H : Type) → List (DataW H) → Bool := fun _ ds => decide (uptoBulkAll ds ≤ 1048576)
def OpenSpec.upto (s : _root_.Go.ChangeSpec) : _root_.Go.OpenSpec := { _root_.Go.OpenSpec.ofChange s with cond := some uptoSmall }

/-- 'onionskinlaw25.InodeSizes', WHERE WHAT IT READS IS OF BULK AT MOST 1048576: true; the input reads as it did. -/
def inodeSizesUptoRow : OpenClaim := { program := "ytmfnjmmdchlkiaa", sum := "ce1ed5bdb98ee2f786cd4c5c5c16ebbcb50b8e7ca4aed831aa70ebad0dbfc172", func := "onionskin/onionskinlaw25.InodeSizes", spec := "inodeSizes", apart := false, narrowed := true }
def InodeSizesUptoSaid : Prop := inodeSizesUptoRow.holds Try.pinned (OpenSpec.upto inodeSizesSpec)

/-- 'onionskinlaw25.InodePuts', WHERE WHAT IT READS IS OF BULK AT MOST 1048576: true; the input reads as it did. -/
def inodePutsUptoRow : OpenClaim := { program := "ytmfnjmmdchlkiaa", sum := "ce1ed5bdb98ee2f786cd4c5c5c16ebbcb50b8e7ca4aed831aa70ebad0dbfc172", func := "onionskin/onionskinlaw25.InodePuts", spec := "inodePuts", apart := false, narrowed := true }
def InodePutsUptoSaid : Prop := inodePutsUptoRow.holds Try.pinned (OpenSpec.upto inodePutsSpec)

/-- 'onionskinlaw25.InodeGets', WHERE WHAT IT READS IS OF BULK AT MOST 1048576: true; the input reads as it did. -/
def inodeGetsUptoRow : OpenClaim := { program := "ytmfnjmmdchlkiaa", sum := "ce1ed5bdb98ee2f786cd4c5c5c16ebbcb50b8e7ca4aed831aa70ebad0dbfc172", func := "onionskin/onionskinlaw25.InodeGets", spec := "inodeGets", apart := false, narrowed := true }
def InodeGetsUptoSaid : Prop := inodeGetsUptoRow.holds Try.pinned (OpenSpec.upto inodeGetsSpec)

/-- 'onionskinlaw25.InodeTells', WHERE WHAT IT READS IS OF BULK AT MOST 1048576: true; the input reads as it did. -/
def inodeTellsUptoRow : OpenClaim := { program := "ytmfnjmmdchlkiaa", sum := "ce1ed5bdb98ee2f786cd4c5c5c16ebbcb50b8e7ca4aed831aa70ebad0dbfc172", func := "onionskin/onionskinlaw25.InodeTells", spec := "inodeTells", apart := false, narrowed := true }
def InodeTellsUptoSaid : Prop := inodeTellsUptoRow.holds Try.pinned (OpenSpec.upto inodeTellsSpec)

/-- 'onionskinlaw37.ProcParents', WHERE WHAT IT READS IS OF BULK AT MOST 1048576: true; the input reads as it did. -/
def procParentsUptoRow : OpenClaim := { program := "ytmfnjmmdchlkiaa", sum := "ce1ed5bdb98ee2f786cd4c5c5c16ebbcb50b8e7ca4aed831aa70ebad0dbfc172", func := "onionskin/onionskinlaw37.ProcParents", spec := "procParents", apart := false, narrowed := true }
def ProcParentsUptoSaid : Prop := procParentsUptoRow.holds Try.pinned (OpenSpec.upto procParentsSpec)

/-- 'onionskinlaw37.ProcPlays', WHERE WHAT IT READS IS OF BULK AT MOST 1048576: true; the input reads as it did. -/
def procPlaysUptoRow : OpenClaim := { program := "ytmfnjmmdchlkiaa", sum := "ce1ed5bdb98ee2f786cd4c5c5c16ebbcb50b8e7ca4aed831aa70ebad0dbfc172", func := "onionskin/onionskinlaw37.ProcPlays", spec := "procPlays", apart := false, narrowed := true }
def ProcPlaysUptoSaid : Prop := procPlaysUptoRow.holds Try.pinned (OpenSpec.upto procPlaysSpec)

/-- 'onionskinlaw37.ProcNone', WHERE WHAT IT READS IS OF BULK AT MOST 1048576: true; the input reads as it did. -/
def procNoneUptoRow : OpenClaim := { program := "ytmfnjmmdchlkiaa", sum := "ce1ed5bdb98ee2f786cd4c5c5c16ebbcb50b8e7ca4aed831aa70ebad0dbfc172", func := "onionskin/onionskinlaw37.ProcNone", spec := "procNone", apart := false, narrowed := true }
def ProcNoneUptoSaid : Prop := procNoneUptoRow.holds Try.pinned (OpenSpec.upto procNoneSpec)

/-- 'onionskinlaw34.FdsNone', WHERE WHAT IT READS IS OF BULK AT MOST 1048576: true; the input reads as it did. -/
def fdsNoneUptoRow : OpenClaim := { program := "ytmfnjmmdchlkiaa", sum := "ce1ed5bdb98ee2f786cd4c5c5c16ebbcb50b8e7ca4aed831aa70ebad0dbfc172", func := "onionskin/onionskinlaw34.FdsNone", spec := "fdsNone", apart := false, narrowed := true }
def FdsNoneUptoSaid : Prop := fdsNoneUptoRow.holds Try.pinned (OpenSpec.upto fdsNoneSpec)

end Rows
end Go.Proofs.Ytmfnjmmdchlkiaa
