/-
  No cell of these rows narrows 'for every input' (looked for: loops, veiled, ifaces, maps, wideKeys, modest, calm, conditions, laid).
  DERIVED. THE GIVEN ROWS OF THIS SEAT. 7 by the template 'for every input the law returns true; each argument reads behind the call as it read before'; 0 by the template 'total and deterministic' (their statements: YtjjhlkjnjbagfaaTotals.lean).
  GIVEN WITH THE SEED: the statements are not yours to turn. If you find one false, say at which input.
  Laid BY PROGRAM, IN A SANDBOX (cutbox-rows.mjs): the forced cells as the released guide's own fill.sh prints them over the translation 4f3121217c4ba953… (all of the seat's roots in one cut). By AI agents, Wed Nov 11 2026. No macro, syntax, notation, axiom, sorry.
-/
import Derived.Test.YtjjhlkjnjbagfaaChecked
import GoSem.Claim
import GoSem.ClaimJoined
import GoSem.ClaimMapViews
import Derived.JoinedTies
import Derived.KernelRfl
namespace Go.Proofs.Ytjjhlkjnjbagfaa
/- THE CELL 'sum', in the pinned program and in every row, IS THE sha256 OF THE DUMP (.gsa) THAT YtjjhlkjnjbagfaaProg.lean LOADS. Nothing in Lean hashes anything: it is a label: what it is worth is what the hold of that sum in a sandbox is worth. -/
noncomputable def Try.pinned : Pinned := { name := "ytjjhlkjnjbagfaa", sum := "4f3121217c4ba9534a7a3473a25975ffde4901658bf9dc6fd0444bbcb1d053a9", checked := Try.checked }
namespace Rows
def none {H : Type} : Left H := { results := [], args := [] }

/-- 'onionskinlaw11.NamesPlay': WHATEVER THE INPUT: true; the input reads as it did. -/
def namesPlaySpec : ChangeSpec := { name := "namesPlay", fn := fun _ => fun
  | [d1, d2] => { results := [.lit (.bool true)], args := [d1, d2] }
  | _ => none }
def namesPlayRow : OpenClaim := { program := "ytjjhlkjnjbagfaa", sum := "4f3121217c4ba9534a7a3473a25975ffde4901658bf9dc6fd0444bbcb1d053a9", func := "onionskin/onionskinlaw11.NamesPlay", spec := "namesPlay", apart := false }
def NamesPlaySaid : Prop := namesPlayRow.holds Try.pinned (OpenSpec.ofChange namesPlaySpec)

/-- ITS FALSE NEIGHBOUR: 'it returns false'. Refute it at one input. -/
def namesPlayWrong : ChangeSpec := { name := "namesPlay", fn := fun _ => fun
  | [d1, d2] => { results := [.lit (.bool false)], args := [d1, d2] }
  | _ => none }
def NamesPlayWrongFalsely : Prop := namesPlayRow.holds Try.pinned (OpenSpec.ofChange namesPlayWrong)

/-- 'onionskinlaw10.SpanLays': WHATEVER THE INPUT: true; the input reads as it did. -/
def spanLaysSpec : ChangeSpec := { name := "spanLays", fn := fun _ => fun
  | [d1, d2, d3] => { results := [.lit (.bool true)], args := [d1, d2, d3] }
  | _ => none }
def spanLaysRow : OpenClaim := { program := "ytjjhlkjnjbagfaa", sum := "4f3121217c4ba9534a7a3473a25975ffde4901658bf9dc6fd0444bbcb1d053a9", func := "onionskin/onionskinlaw10.SpanLays", spec := "spanLays", unfollowed := true, recurses := true, apart := false }
def SpanLaysSaid : Prop := spanLaysRow.holds Try.pinned (OpenSpec.ofChange spanLaysSpec)

/-- ITS FALSE NEIGHBOUR: 'it returns false'. Refute it at one input. -/
def spanLaysWrong : ChangeSpec := { name := "spanLays", fn := fun _ => fun
  | [d1, d2, d3] => { results := [.lit (.bool false)], args := [d1, d2, d3] }
  | _ => none }
def SpanLaysWrongFalsely : Prop := spanLaysRow.holds Try.pinned (OpenSpec.ofChange spanLaysWrong)

/-- 'onionskinlaw10.SpanBack': WHATEVER THE INPUT: true; the input reads as it did. -/
def spanBackSpec : ChangeSpec := { name := "spanBack", fn := fun _ => fun
  | [d1, d2] => { results := [.lit (.bool true)], args := [d1, d2] }
  | _ => none }
def spanBackRow : OpenClaim := { program := "ytjjhlkjnjbagfaa", sum := "4f3121217c4ba9534a7a3473a25975ffde4901658bf9dc6fd0444bbcb1d053a9", func := "onionskin/onionskinlaw10.SpanBack", spec := "spanBack", unfollowed := true, recurses := true, apart := false }
def SpanBackSaid : Prop := spanBackRow.holds Try.pinned (OpenSpec.ofChange spanBackSpec)

/-- ITS FALSE NEIGHBOUR: 'it returns false'. Refute it at one input. -/
def spanBackWrong : ChangeSpec := { name := "spanBack", fn := fun _ => fun
  | [d1, d2] => { results := [.lit (.bool false)], args := [d1, d2] }
  | _ => none }
def SpanBackWrongFalsely : Prop := spanBackRow.holds Try.pinned (OpenSpec.ofChange spanBackWrong)

/-- 'onionskinlaw10.SpanFirst': WHATEVER THE INPUT: true; the input reads as it did. -/
def spanFirstSpec : ChangeSpec := { name := "spanFirst", fn := fun _ => fun
  | [d1, d2] => { results := [.lit (.bool true)], args := [d1, d2] }
  | _ => none }
def spanFirstRow : OpenClaim := { program := "ytjjhlkjnjbagfaa", sum := "4f3121217c4ba9534a7a3473a25975ffde4901658bf9dc6fd0444bbcb1d053a9", func := "onionskin/onionskinlaw10.SpanFirst", spec := "spanFirst", unfollowed := true, recurses := true, apart := false }
def SpanFirstSaid : Prop := spanFirstRow.holds Try.pinned (OpenSpec.ofChange spanFirstSpec)

/-- ITS FALSE NEIGHBOUR: 'it returns false'. Refute it at one input. -/
def spanFirstWrong : ChangeSpec := { name := "spanFirst", fn := fun _ => fun
  | [d1, d2] => { results := [.lit (.bool false)], args := [d1, d2] }
  | _ => none }
def SpanFirstWrongFalsely : Prop := spanFirstRow.holds Try.pinned (OpenSpec.ofChange spanFirstWrong)

/-- 'onionskinlaw11.NamesMeant': WHATEVER THE INPUT: true; the input reads as it did. -/
def namesMeantSpec : ChangeSpec := { name := "namesMeant", fn := fun _ => fun
  | [d1, d2] => { results := [.lit (.bool true)], args := [d1, d2] }
  | _ => none }
def namesMeantRow : OpenClaim := { program := "ytjjhlkjnjbagfaa", sum := "4f3121217c4ba9534a7a3473a25975ffde4901658bf9dc6fd0444bbcb1d053a9", func := "onionskin/onionskinlaw11.NamesMeant", spec := "namesMeant", unfollowed := true, recurses := true, apart := false }
def NamesMeantSaid : Prop := namesMeantRow.holds Try.pinned (OpenSpec.ofChange namesMeantSpec)

/-- ITS FALSE NEIGHBOUR: 'it returns false'. Refute it at one input. -/
def namesMeantWrong : ChangeSpec := { name := "namesMeant", fn := fun _ => fun
  | [d1, d2] => { results := [.lit (.bool false)], args := [d1, d2] }
  | _ => none }
def NamesMeantWrongFalsely : Prop := namesMeantRow.holds Try.pinned (OpenSpec.ofChange namesMeantWrong)

/-- 'onionskinlaw11.NamesThrough': WHATEVER THE INPUT: true; the input reads as it did. -/
def namesThroughSpec : ChangeSpec := { name := "namesThrough", fn := fun _ => fun
  | [d1, d2, d3] => { results := [.lit (.bool true)], args := [d1, d2, d3] }
  | _ => none }
def namesThroughRow : OpenClaim := { program := "ytjjhlkjnjbagfaa", sum := "4f3121217c4ba9534a7a3473a25975ffde4901658bf9dc6fd0444bbcb1d053a9", func := "onionskin/onionskinlaw11.NamesThrough", spec := "namesThrough", unfollowed := true, recurses := true, apart := false }
def NamesThroughSaid : Prop := namesThroughRow.holds Try.pinned (OpenSpec.ofChange namesThroughSpec)

/-- ITS FALSE NEIGHBOUR: 'it returns false'. Refute it at one input. -/
def namesThroughWrong : ChangeSpec := { name := "namesThrough", fn := fun _ => fun
  | [d1, d2, d3] => { results := [.lit (.bool false)], args := [d1, d2, d3] }
  | _ => none }
def NamesThroughWrongFalsely : Prop := namesThroughRow.holds Try.pinned (OpenSpec.ofChange namesThroughWrong)

/-- 'onionskinlaw11.NamesOwn': WHATEVER THE INPUT: true; the input reads as it did. -/
def namesOwnSpec : ChangeSpec := { name := "namesOwn", fn := fun _ => fun
  | [d1, d2] => { results := [.lit (.bool true)], args := [d1, d2] }
  | _ => none }
def namesOwnRow : OpenClaim := { program := "ytjjhlkjnjbagfaa", sum := "4f3121217c4ba9534a7a3473a25975ffde4901658bf9dc6fd0444bbcb1d053a9", func := "onionskin/onionskinlaw11.NamesOwn", spec := "namesOwn", unfollowed := true, recurses := true, apart := false }
def NamesOwnSaid : Prop := namesOwnRow.holds Try.pinned (OpenSpec.ofChange namesOwnSpec)

/-- ITS FALSE NEIGHBOUR: 'it returns false'. Refute it at one input. -/
def namesOwnWrong : ChangeSpec := { name := "namesOwn", fn := fun _ => fun
  | [d1, d2] => { results := [.lit (.bool false)], args := [d1, d2] }
  | _ => none }
def NamesOwnWrongFalsely : Prop := namesOwnRow.holds Try.pinned (OpenSpec.ofChange namesOwnWrong)

/- THE SECOND FORM. 'bulk': how many values and letters a reading holds, each counted each time it is reached (what is shared counts as often as it is met; a slice's spare places count too). A statement '..UptoSaid' is the law's where the arguments, and the package variables that the reading takes, are together of bulk at most 1048576: NARROWER than '..Said'. Prove '..Said' where nothing that the law and all that it calls make is longer than what came in: it says more and counts as full. Else prove '..UptoSaid'. A law counts once. -/
mutual
def uptoBulk {H : Type} : DataW H → Nat
  | .lit (.string bytes) => bytes.length + 1
  | .lit _ => 1
  | .nil => 1
  | .ptr d => uptoBulk d + 1
  | .slice elems spare => uptoBulkAll elems + uptoBulkAll spare + 1
  | .agg parts => uptoBulkAll parts + 1
  | .iface _ d => uptoBulk d + 1
  | .map entries => uptoBulkEntries entries + 1
  | .held _ => 1
def uptoBulkAll {H : Type} : List (DataW H) → Nat
  | [] => 0
  | d :: r => uptoBulk d + uptoBulkAll r
def uptoBulkEntries {H : Type} : List (Lit × DataW H) → Nat
  | [] => 0
  | x :: r => uptoBulkEntry x + uptoBulkEntries r
def uptoBulkEntry {H : Type} : Lit × DataW H → Nat
  | (.string bytes, d) => bytes.length + uptoBulk d + 1
  | (_, d) => uptoBulk d + 1
 end
def uptoSmall : (H : Type) → List (DataW H) → Bool := fun _ ds => decide (uptoBulkAll ds ≤ 1048576)
def OpenSpec.upto (s : _root_.Go.ChangeSpec) : _root_.Go.OpenSpec := { _root_.Go.OpenSpec.ofChange s with cond := some uptoSmall }

/-- 'onionskinlaw11.NamesPlay', WHERE WHAT IT READS IS OF BULK AT MOST 1048576: true; the input reads as it did. -/
def namesPlayUptoRow : OpenClaim := { program := "ytjjhlkjnjbagfaa", sum := "4f3121217c4ba9534a7a3473a25975ffde4901658bf9dc6fd0444bbcb1d053a9", func := "onionskin/onionskinlaw11.NamesPlay", spec := "namesPlay", apart := false, narrowed := true }
def NamesPlayUptoSaid : Prop := namesPlayUptoRow.holds Try.pinned (OpenSpec.upto namesPlaySpec)

/-- 'onionskinlaw10.SpanLays', WHERE WHAT IT READS IS OF BULK AT MOST 1048576: true; the input reads as it did. -/
def spanLaysUptoRow : OpenClaim := { program := "ytjjhlkjnjbagfaa", sum := "4f3121217c4ba9534a7a3473a25975ffde4901658bf9dc6fd0444bbcb1d053a9", func := "onionskin/onionskinlaw10.SpanLays", spec := "spanLays", unfollowed := true, recurses := true, apart := false, narrowed := true }
def SpanLaysUptoSaid : Prop := spanLaysUptoRow.holds Try.pinned (OpenSpec.upto spanLaysSpec)

/-- 'onionskinlaw10.SpanBack', WHERE WHAT IT READS IS OF BULK AT MOST 1048576: true; the input reads as it did. -/
def spanBackUptoRow : OpenClaim := { program := "ytjjhlkjnjbagfaa", sum := "4f3121217c4ba9534a7a3473a25975ffde4901658bf9dc6fd0444bbcb1d053a9", func := "onionskin/onionskinlaw10.SpanBack", spec := "spanBack", unfollowed := true, recurses := true, apart := false, narrowed := true }
def SpanBackUptoSaid : Prop := spanBackUptoRow.holds Try.pinned (OpenSpec.upto spanBackSpec)

/-- 'onionskinlaw10.SpanFirst', WHERE WHAT IT READS IS OF BULK AT MOST 1048576: true; the input reads as it did. -/
def spanFirstUptoRow : OpenClaim := { program := "ytjjhlkjnjbagfaa", sum := "4f3121217c4ba9534a7a3473a25975ffde4901658bf9dc6fd0444bbcb1d053a9", func := "onionskin/onionskinlaw10.SpanFirst", spec := "spanFirst", unfollowed := true, recurses := true, apart := false, narrowed := true }
def SpanFirstUptoSaid : Prop := spanFirstUptoRow.holds Try.pinned (OpenSpec.upto spanFirstSpec)

/-- 'onionskinlaw11.NamesMeant', WHERE WHAT IT READS IS OF BULK AT MOST 1048576: true; the input reads as it did. -/
def namesMeantUptoRow : OpenClaim := { program := "ytjjhlkjnjbagfaa", sum := "4f3121217c4ba9534a7a3473a25975ffde4901658bf9dc6fd0444bbcb1d053a9", func := "onionskin/onionskinlaw11.NamesMeant", spec := "namesMeant", unfollowed := true, recurses := true, apart := false, narrowed := true }
def NamesMeantUptoSaid : Prop := namesMeantUptoRow.holds Try.pinned (OpenSpec.upto namesMeantSpec)

/-- 'onionskinlaw11.NamesThrough', WHERE WHAT IT READS IS OF BULK AT MOST 1048576: true; the input reads as it did. -/
def namesThroughUptoRow : OpenClaim := { program := "ytjjhlkjnjbagfaa", sum := "4f3121217c4ba9534a7a3473a25975ffde4901658bf9dc6fd0444bbcb1d053a9", func := "onionskin/onionskinlaw11.NamesThrough", spec := "namesThrough", unfollowed := true, recurses := true, apart := false, narrowed := true }
def NamesThroughUptoSaid : Prop := namesThroughUptoRow.holds Try.pinned (OpenSpec.upto namesThroughSpec)

/-- 'onionskinlaw11.NamesOwn', WHERE WHAT IT READS IS OF BULK AT MOST 1048576: true; the input reads as it did. -/
def namesOwnUptoRow : OpenClaim := { program := "ytjjhlkjnjbagfaa", sum := "4f3121217c4ba9534a7a3473a25975ffde4901658bf9dc6fd0444bbcb1d053a9", func := "onionskin/onionskinlaw11.NamesOwn", spec := "namesOwn", unfollowed := true, recurses := true, apart := false, narrowed := true }
def NamesOwnUptoSaid : Prop := namesOwnUptoRow.holds Try.pinned (OpenSpec.upto namesOwnSpec)

end Rows
end Go.Proofs.Ytjjhlkjnjbagfaa
