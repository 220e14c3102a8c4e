/-
  DERIVED. GIVEN WITH THE SEED: THE CARDS: each row of YtjejnlfbonpfaaaDoorRows.lean that lists a variable, with what it lists TIED to the program's text (the seventh form; the later family's looks); each row that meets fmt, with fmt's text TOLD by the authors' own Lean function (tested against real Go, not proved from fmt's source: count such statements apart). THE CARD IS WHAT COUNTS. Prove the row's statement (the work); the ties are given (YtjejnlfbonpfaaaDoorTie.lean); close each card by the builder's one call (the guide's Derived/Test/ToyasCard.lean, 'card_holds'). Laid BY PROGRAM, IN A SANDBOX (cutbox-door.mjs). By AI agents, Wed Nov 11 2026. No macro, syntax, notation, axiom, sorry.
-/
import Derived.Test.YtjejnlfbonpfaaaDoorRows
import GoSem.ClaimSeven
namespace Go.Proofs.YtjejnlfbonpfaaaDoor
namespace Rows

/-- THE TIED CARD OF 'onionskinlaw36.SigBack'. -/
def sigBackCard : Claim7 := { stood := { row := sigBackRow, standIns := [], harness := (true, "d242b27775e8fa67d824bf1b606e7081bd9eb34a0b5a744d10172f262c5ae31e"), looks := false }, kinds := [], alts := [], laidByText := true, laidKinds := [.data], laidTests := true, laidLooks := .later }
def SigBackCardSaid : Prop := Claim7.holds Tryd.pinned (.plain (OpenSpec.ofChange sigBackSpec)) sigBackCard

/-- THE TIED CARD OF 'onionskinlaw36.SigKill'. -/
def sigKillCard : Claim7 := { stood := { row := sigKillRow, standIns := [], harness := (true, "d242b27775e8fa67d824bf1b606e7081bd9eb34a0b5a744d10172f262c5ae31e"), looks := false }, kinds := [], alts := [], laidByText := true, laidKinds := [.data], laidTests := true, laidLooks := .later }
def SigKillCardSaid : Prop := Claim7.holds Tryd.pinned (.plain (OpenSpec.ofChange sigKillSpec)) sigKillCard

/-- THE TIED CARD OF 'onionskinlaw36.SigPlays'. -/
def sigPlaysCard : Claim7 := { stood := { row := sigPlaysRow, standIns := [], harness := (true, "d242b27775e8fa67d824bf1b606e7081bd9eb34a0b5a744d10172f262c5ae31e"), looks := false }, kinds := [], alts := [], laidByText := true, laidKinds := [.data], laidTests := true, laidLooks := .later }
def SigPlaysCardSaid : Prop := Claim7.holds Tryd.pinned (.plain (OpenSpec.ofChange sigPlaysSpec)) sigPlaysCard

/-- THE SECOND FORM's CARD OF 'onionskinlaw36.SigBack'. -/
def sigBackUptoCard : Claim7 := { stood := { row := sigBackUptoRow, standIns := [], harness := (true, "d242b27775e8fa67d824bf1b606e7081bd9eb34a0b5a744d10172f262c5ae31e"), looks := false }, kinds := [], alts := [], laidByText := true, laidKinds := [.data], laidTests := true, laidLooks := .later }
def SigBackUptoCardSaid : Prop := Claim7.holds Tryd.pinned (.plain (OpenSpec.upto sigBackSpec)) sigBackUptoCard

/-- THE SECOND FORM's CARD OF 'onionskinlaw36.SigKill'. -/
def sigKillUptoCard : Claim7 := { stood := { row := sigKillUptoRow, standIns := [], harness := (true, "d242b27775e8fa67d824bf1b606e7081bd9eb34a0b5a744d10172f262c5ae31e"), looks := false }, kinds := [], alts := [], laidByText := true, laidKinds := [.data], laidTests := true, laidLooks := .later }
def SigKillUptoCardSaid : Prop := Claim7.holds Tryd.pinned (.plain (OpenSpec.upto sigKillSpec)) sigKillUptoCard

/-- THE SECOND FORM's CARD OF 'onionskinlaw36.SigPlays'. -/
def sigPlaysUptoCard : Claim7 := { stood := { row := sigPlaysUptoRow, standIns := [], harness := (true, "d242b27775e8fa67d824bf1b606e7081bd9eb34a0b5a744d10172f262c5ae31e"), looks := false }, kinds := [], alts := [], laidByText := true, laidKinds := [.data], laidTests := true, laidLooks := .later }
def SigPlaysUptoCardSaid : Prop := Claim7.holds Tryd.pinned (.plain (OpenSpec.upto sigPlaysSpec)) sigPlaysUptoCard
end Rows
end Go.Proofs.YtjejnlfbonpfaaaDoor
