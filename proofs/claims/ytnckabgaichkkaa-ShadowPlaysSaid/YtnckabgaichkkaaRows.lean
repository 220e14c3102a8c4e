/-
  No cell of these rows narrows 'for every input' (looked for: loops, veiled, ifaces, maps, wideKeys, modest, calm, conditions, laid).
  DERIVED. THE GIVEN ROWS OF THIS SEAT. 7 by the template 'for every input the law returns true; each argument reads behind the call as it read before'; 0 by the template 'total and deterministic' (their statements: YtnckabgaichkkaaTotals.lean).
  GIVEN WITH THE SEED: the statements are not yours to turn. If you find one false, say at which input.
  Laid BY PROGRAM, IN A SANDBOX (cutbox-rows.mjs): the forced cells as the released guide's own fill.sh prints them over the translation 6205dfa2787d7991… (all of the seat's roots in one cut). By AI agents, Wed Nov 11 2026. No macro, syntax, notation, axiom, sorry.
-/
import Derived.Test.YtnckabgaichkkaaChecked
import GoSem.Claim
import GoSem.ClaimJoined
import GoSem.ClaimMapViews
import Derived.JoinedTies
import Derived.KernelRfl
namespace Go.Proofs.Ytnckabgaichkkaa
/- THE CELL 'sum', in the pinned program and in every row, IS THE sha256 OF THE DUMP (.gsa) THAT YtnckabgaichkkaaProg.lean LOADS. Nothing in Lean hashes anything: it is a label: what it is worth is what the hold of that sum in a sandbox is worth. -/
noncomputable def Try.pinned : Pinned := { name := "ytnckabgaichkkaa", sum := "6205dfa2787d79912acf2cedf320ae22755e7889e2b4cf1948785c6fa6f3b5af", checked := Try.checked }
namespace Rows
def none {H : Type} : Left H := { results := [], args := [] }

/-- 'onionskinlaw15.BindPlays': WHATEVER THE INPUT: true; the input reads as it did. -/
def bindPlaysSpec : ChangeSpec := { name := "bindPlays", fn := fun _ => fun
  | [d] => { results := [.lit (.bool true)], args := [d] }
  | _ => none }
def bindPlaysRow : OpenClaim := { program := "ytnckabgaichkkaa", sum := "6205dfa2787d79912acf2cedf320ae22755e7889e2b4cf1948785c6fa6f3b5af", func := "onionskin/onionskinlaw15.BindPlays", spec := "bindPlays", unfollowed := true, recurses := true, plainKeys := false, apart := false }
def BindPlaysSaid : Prop := bindPlaysRow.holds Try.pinned (OpenSpec.ofChange bindPlaysSpec)

/-- ITS FALSE NEIGHBOUR: 'it returns false'. Refute it at one input. -/
def bindPlaysWrong : ChangeSpec := { name := "bindPlays", fn := fun _ => fun
  | [d] => { results := [.lit (.bool false)], args := [d] }
  | _ => none }
def BindPlaysWrongFalsely : Prop := bindPlaysRow.holds Try.pinned (OpenSpec.ofChange bindPlaysWrong)

/-- 'onionskinlaw15.BindGone': WHATEVER THE INPUT: true; the input reads as it did. -/
def bindGoneSpec : ChangeSpec := { name := "bindGone", fn := fun _ => fun
  | [d1, d2] => { results := [.lit (.bool true)], args := [d1, d2] }
  | _ => none }
def bindGoneRow : OpenClaim := { program := "ytnckabgaichkkaa", sum := "6205dfa2787d79912acf2cedf320ae22755e7889e2b4cf1948785c6fa6f3b5af", func := "onionskin/onionskinlaw15.BindGone", spec := "bindGone", unfollowed := true, recurses := true, plainKeys := false, apart := false }
def BindGoneSaid : Prop := bindGoneRow.holds Try.pinned (OpenSpec.ofChange bindGoneSpec)

/-- ITS FALSE NEIGHBOUR: 'it returns false'. Refute it at one input. -/
def bindGoneWrong : ChangeSpec := { name := "bindGone", fn := fun _ => fun
  | [d1, d2] => { results := [.lit (.bool false)], args := [d1, d2] }
  | _ => none }
def BindGoneWrongFalsely : Prop := bindGoneRow.holds Try.pinned (OpenSpec.ofChange bindGoneWrong)

/-- 'onionskinlaw15.BindNone': WHATEVER THE INPUT: true; the input reads as it did. -/
def bindNoneSpec : ChangeSpec := { name := "bindNone", fn := fun _ => fun
  | [d] => { results := [.lit (.bool true)], args := [d] }
  | _ => none }
def bindNoneRow : OpenClaim := { program := "ytnckabgaichkkaa", sum := "6205dfa2787d79912acf2cedf320ae22755e7889e2b4cf1948785c6fa6f3b5af", func := "onionskin/onionskinlaw15.BindNone", spec := "bindNone", unfollowed := true, recurses := true, plainKeys := false, apart := false }
def BindNoneSaid : Prop := bindNoneRow.holds Try.pinned (OpenSpec.ofChange bindNoneSpec)

/-- ITS FALSE NEIGHBOUR: 'it returns false'. Refute it at one input. -/
def bindNoneWrong : ChangeSpec := { name := "bindNone", fn := fun _ => fun
  | [d] => { results := [.lit (.bool false)], args := [d] }
  | _ => none }
def BindNoneWrongFalsely : Prop := bindNoneRow.holds Try.pinned (OpenSpec.ofChange bindNoneWrong)

/-- 'onionskinlaw19.ShadowGone': WHATEVER THE INPUT: true; the input reads as it did. -/
def shadowGoneSpec : ChangeSpec := { name := "shadowGone", fn := fun _ => fun
  | [d1, d2] => { results := [.lit (.bool true)], args := [d1, d2] }
  | _ => none }
def shadowGoneRow : OpenClaim := { program := "ytnckabgaichkkaa", sum := "6205dfa2787d79912acf2cedf320ae22755e7889e2b4cf1948785c6fa6f3b5af", func := "onionskin/onionskinlaw19.ShadowGone", spec := "shadowGone", unfollowed := true, recurses := true, plainKeys := false, apart := false }
def ShadowGoneSaid : Prop := shadowGoneRow.holds Try.pinned (OpenSpec.ofChange shadowGoneSpec)

/-- ITS FALSE NEIGHBOUR: 'it returns false'. Refute it at one input. -/
def shadowGoneWrong : ChangeSpec := { name := "shadowGone", fn := fun _ => fun
  | [d1, d2] => { results := [.lit (.bool false)], args := [d1, d2] }
  | _ => none }
def ShadowGoneWrongFalsely : Prop := shadowGoneRow.holds Try.pinned (OpenSpec.ofChange shadowGoneWrong)

/-- 'onionskinlaw19.ShadowPlays': WHATEVER THE INPUT: true; the input reads as it did. -/
def shadowPlaysSpec : ChangeSpec := { name := "shadowPlays", fn := fun _ => fun
  | [d] => { results := [.lit (.bool true)], args := [d] }
  | _ => none }
def shadowPlaysRow : OpenClaim := { program := "ytnckabgaichkkaa", sum := "6205dfa2787d79912acf2cedf320ae22755e7889e2b4cf1948785c6fa6f3b5af", func := "onionskin/onionskinlaw19.ShadowPlays", spec := "shadowPlays", unfollowed := true, recurses := true, plainKeys := false, apart := false }
def ShadowPlaysSaid : Prop := shadowPlaysRow.holds Try.pinned (OpenSpec.ofChange shadowPlaysSpec)

/-- ITS FALSE NEIGHBOUR: 'it returns false'. Refute it at one input. -/
def shadowPlaysWrong : ChangeSpec := { name := "shadowPlays", fn := fun _ => fun
  | [d] => { results := [.lit (.bool false)], args := [d] }
  | _ => none }
def ShadowPlaysWrongFalsely : Prop := shadowPlaysRow.holds Try.pinned (OpenSpec.ofChange shadowPlaysWrong)

/-- 'onionskinlaw19.ShadowSound': WHATEVER THE INPUT: true; the input reads as it did. -/
def shadowSoundSpec : ChangeSpec := { name := "shadowSound", fn := fun _ => fun
  | [d] => { results := [.lit (.bool true)], args := [d] }
  | _ => none }
def shadowSoundRow : OpenClaim := { program := "ytnckabgaichkkaa", sum := "6205dfa2787d79912acf2cedf320ae22755e7889e2b4cf1948785c6fa6f3b5af", func := "onionskin/onionskinlaw19.ShadowSound", spec := "shadowSound", unfollowed := true, recurses := true, plainKeys := false, apart := false }
def ShadowSoundSaid : Prop := shadowSoundRow.holds Try.pinned (OpenSpec.ofChange shadowSoundSpec)

/-- ITS FALSE NEIGHBOUR: 'it returns false'. Refute it at one input. -/
def shadowSoundWrong : ChangeSpec := { name := "shadowSound", fn := fun _ => fun
  | [d] => { results := [.lit (.bool false)], args := [d] }
  | _ => none }
def ShadowSoundWrongFalsely : Prop := shadowSoundRow.holds Try.pinned (OpenSpec.ofChange shadowSoundWrong)

/-- 'onionskinlaw19.ShadowNone': WHATEVER THE INPUT: true; the input reads as it did. -/
def shadowNoneSpec : ChangeSpec := { name := "shadowNone", fn := fun _ => fun
  | [d] => { results := [.lit (.bool true)], args := [d] }
  | _ => none }
def shadowNoneRow : OpenClaim := { program := "ytnckabgaichkkaa", sum := "6205dfa2787d79912acf2cedf320ae22755e7889e2b4cf1948785c6fa6f3b5af", func := "onionskin/onionskinlaw19.ShadowNone", spec := "shadowNone", unfollowed := true, recurses := true, plainKeys := false, apart := false }
def ShadowNoneSaid : Prop := shadowNoneRow.holds Try.pinned (OpenSpec.ofChange shadowNoneSpec)

/-- ITS FALSE NEIGHBOUR: 'it returns false'. Refute it at one input. -/
def shadowNoneWrong : ChangeSpec := { name := "shadowNone", fn := fun _ => fun
  | [d] => { results := [.lit (.bool false)], args := [d] }
  | _ => none }
def ShadowNoneWrongFalsely : Prop := shadowNoneRow.holds Try.pinned (OpenSpec.ofChange shadowNoneWrong)

/- THE SECOND FORM. 'bulk': how many values and letters a reading holds, each counted each time it is reached (what is shared counts as often as it is met; a slice's spare places count too). A statement '..UptoSaid' is the law's where the arguments, and the package variables that the reading takes, are together of bulk at most 1048576: NARROWER than '..Said'. Prove '..Said' where nothing that the law and all that it calls make is longer than what came in: it says more and counts as full. Else prove '..UptoSaid'. A law counts once. -/
mutual
def uptoBulk {H : Type} : DataW H → Nat
  | .lit (.string bytes) => bytes.length + 1
  | .lit _ => 1
  | .nil => 1
  | .ptr d => uptoBulk d + 1
  | .slice elems spare => uptoBulkAll elems + uptoBulkAll spare + 1
  | .agg parts => uptoBulkAll parts + 1
  | .iface _ d => uptoBulk d + 1
  | .map entries => uptoBulkEntries entries + 1
  | .held _ => 1
def uptoBulkAll {H : Type} : List (DataW H) → Nat
  | [] => 0
  | d :: r => uptoBulk d + uptoBulkAll r
def uptoBulkEntries {H : Type} : List (Lit × DataW H) → Nat
  | [] => 0
  | x :: r => uptoBulkEntry x + uptoBulkEntries r
def uptoBulkEntry {H : Type} : Lit × DataW H → Nat
  | (.string bytes, d) => bytes.length + uptoBulk d + 1
  | (_, d) => uptoBulk d + 1
 end
def uptoSmall : (H : Type) → List (DataW H) → Bool := fun _ ds => decide (uptoBulkAll ds ≤ 1048576)
def OpenSpec.upto (s : _root_.Go.ChangeSpec) : _root_.Go.OpenSpec := { _root_.Go.OpenSpec.ofChange s with cond := some uptoSmall }

/-- 'onionskinlaw15.BindPlays', WHERE WHAT IT READS IS OF BULK AT MOST 1048576: true; the input reads as it did. -/
def bindPlaysUptoRow : OpenClaim := { program := "ytnckabgaichkkaa", sum := "6205dfa2787d79912acf2cedf320ae22755e7889e2b4cf1948785c6fa6f3b5af", func := "onionskin/onionskinlaw15.BindPlays", spec := "bindPlays", unfollowed := true, recurses := true, plainKeys := false, apart := false, narrowed := true }
def BindPlaysUptoSaid : Prop := bindPlaysUptoRow.holds Try.pinned (OpenSpec.upto bindPlaysSpec)

/-- 'onionskinlaw15.BindGone', WHERE WHAT IT READS IS OF BULK AT MOST 1048576: true; the input reads as it did. -/
def bindGoneUptoRow : OpenClaim := { program := "ytnckabgaichkkaa", sum := "6205dfa2787d79912acf2cedf320ae22755e7889e2b4cf1948785c6fa6f3b5af", func := "onionskin/onionskinlaw15.BindGone", spec := "bindGone", unfollowed := true, recurses := true, plainKeys := false, apart := false, narrowed := true }
def BindGoneUptoSaid : Prop := bindGoneUptoRow.holds Try.pinned (OpenSpec.upto bindGoneSpec)

/-- 'onionskinlaw15.BindNone', WHERE WHAT IT READS IS OF BULK AT MOST 1048576: true; the input reads as it did. -/
def bindNoneUptoRow : OpenClaim := { program := "ytnckabgaichkkaa", sum := "6205dfa2787d79912acf2cedf320ae22755e7889e2b4cf1948785c6fa6f3b5af", func := "onionskin/onionskinlaw15.BindNone", spec := "bindNone", unfollowed := true, recurses := true, plainKeys := false, apart := false, narrowed := true }
def BindNoneUptoSaid : Prop := bindNoneUptoRow.holds Try.pinned (OpenSpec.upto bindNoneSpec)

/-- 'onionskinlaw19.ShadowGone', WHERE WHAT IT READS IS OF BULK AT MOST 1048576: true; the input reads as it did. -/
def shadowGoneUptoRow : OpenClaim := { program := "ytnckabgaichkkaa", sum := "6205dfa2787d79912acf2cedf320ae22755e7889e2b4cf1948785c6fa6f3b5af", func := "onionskin/onionskinlaw19.ShadowGone", spec := "shadowGone", unfollowed := true, recurses := true, plainKeys := false, apart := false, narrowed := true }
def ShadowGoneUptoSaid : Prop := shadowGoneUptoRow.holds Try.pinned (OpenSpec.upto shadowGoneSpec)

/-- 'onionskinlaw19.ShadowPlays', WHERE WHAT IT READS IS OF BULK AT MOST 1048576: true; the input reads as it did. -/
def shadowPlaysUptoRow : OpenClaim := { program := "ytnckabgaichkkaa", sum := "6205dfa2787d79912acf2cedf320ae22755e7889e2b4cf1948785c6fa6f3b5af", func := "onionskin/onionskinlaw19.ShadowPlays", spec := "shadowPlays", unfollowed := true, recurses := true, plainKeys := false, apart := false, narrowed := true }
def ShadowPlaysUptoSaid : Prop := shadowPlaysUptoRow.holds Try.pinned (OpenSpec.upto shadowPlaysSpec)

/-- 'onionskinlaw19.ShadowSound', WHERE WHAT IT READS IS OF BULK AT MOST 1048576: true; the input reads as it did. -/
def shadowSoundUptoRow : OpenClaim := { program := "ytnckabgaichkkaa", sum := "6205dfa2787d79912acf2cedf320ae22755e7889e2b4cf1948785c6fa6f3b5af", func := "onionskin/onionskinlaw19.ShadowSound", spec := "shadowSound", unfollowed := true, recurses := true, plainKeys := false, apart := false, narrowed := true }
def ShadowSoundUptoSaid : Prop := shadowSoundUptoRow.holds Try.pinned (OpenSpec.upto shadowSoundSpec)

/-- 'onionskinlaw19.ShadowNone', WHERE WHAT IT READS IS OF BULK AT MOST 1048576: true; the input reads as it did. -/
def shadowNoneUptoRow : OpenClaim := { program := "ytnckabgaichkkaa", sum := "6205dfa2787d79912acf2cedf320ae22755e7889e2b4cf1948785c6fa6f3b5af", func := "onionskin/onionskinlaw19.ShadowNone", spec := "shadowNone", unfollowed := true, recurses := true, plainKeys := false, apart := false, narrowed := true }
def ShadowNoneUptoSaid : Prop := shadowNoneUptoRow.holds Try.pinned (OpenSpec.upto shadowNoneSpec)

end Rows
end Go.Proofs.Ytnckabgaichkkaa
