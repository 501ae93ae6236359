/-
  DERIVED. GIVEN WITH THE SEED: THE CARDS: each row of YtjclmfaodngbfaaGreatDoorRows.lean that lists a variable, with what it lists TIED to the program's text (the seventh form; the later family's looks); each row that meets fmt, with fmt's text TOLD by the authors' own Lean function (tested against real Go, not proved from fmt's source: count such statements apart). THE CARD IS WHAT COUNTS. Prove the row's statement (the work); the ties are given (YtjclmfaodngbfaaGreatDoorTie.lean); close each card by the builder's one call (the guide's Derived/Test/ToyasCard.lean, 'card_holds'). Laid BY PROGRAM, IN A SANDBOX (cutbox-door.mjs). By AI agents, Wed Nov 11 2026. No macro, syntax, notation, axiom, sorry.
-/
import Derived.Test.YtjclmfaodngbfaaGreatDoorRows
import GoSem.ClaimSeven
namespace Go.Proofs.YtjclmfaodngbfaaGreatDoor
namespace Rows

/-- THE TIED CARD OF 'twistlocklaw41.DrawSmall'. -/
def drawSmallCard : Claim7 := { stood := { row := drawSmallRow, standIns := [], harness := (true, "acfdaa21eae9003f751382b76ec2f90fb74e1e3fc0eb4e83a1f274b1f01f5a01"), looks := true }, kinds := [], alts := [], laidByText := true, laidKinds := [.data, .data, .data, .data, .sentinel, .sentinel, .pinned], laidTests := true, laidLooks := .later }
def DrawSmallCardSaid : Prop := Claim7.holds Tryz.pinned (.plain (OpenSpec.ofChange drawSmallSpec)) drawSmallCard

/-- THE TIED CARD OF 'twistlocklaw41.DrawAlone'. -/
def drawAloneCard : Claim7 := { stood := { row := drawAloneRow, standIns := [], harness := (true, "acfdaa21eae9003f751382b76ec2f90fb74e1e3fc0eb4e83a1f274b1f01f5a01"), looks := true }, kinds := [], alts := [], laidByText := true, laidKinds := [.data, .data, .data, .data, .sentinel, .sentinel, .pinned], laidTests := true, laidLooks := .later }
def DrawAloneCardSaid : Prop := Claim7.holds Tryz.pinned (.plain (OpenSpec.ofChange drawAloneSpec)) drawAloneCard

/-- THE TIED CARD OF 'twistlocklaw41.DrawBack'. -/
def drawBackCard : Claim7 := { stood := { row := drawBackRow, standIns := [], harness := (true, "acfdaa21eae9003f751382b76ec2f90fb74e1e3fc0eb4e83a1f274b1f01f5a01"), looks := true }, kinds := [], alts := [], laidByText := true, laidKinds := [.data, .data, .data, .data, .sentinel, .sentinel, .pinned], laidTests := true, laidLooks := .later }
def DrawBackCardSaid : Prop := Claim7.holds Tryz.pinned (.plain (OpenSpec.ofChange drawBackSpec)) drawBackCard

/-- THE TIED CARD OF 'twistlocklaw41.DrawWrong'. -/
def drawWrongCard : Claim7 := { stood := { row := drawWrongRow, standIns := [], harness := (true, "acfdaa21eae9003f751382b76ec2f90fb74e1e3fc0eb4e83a1f274b1f01f5a01"), looks := true }, kinds := [], alts := [], laidByText := true, laidKinds := [.data, .data, .data, .data, .sentinel, .sentinel, .pinned], laidTests := true, laidLooks := .later }
def DrawWrongCardSaid : Prop := Claim7.holds Tryz.pinned (.plain (OpenSpec.ofChange drawWrongSpec)) drawWrongCard

/-- THE TIED CARD OF 'twistlocklaw41.DrawShape'. -/
def drawShapeCard : Claim7 := { stood := { row := drawShapeRow, standIns := [], harness := (true, "acfdaa21eae9003f751382b76ec2f90fb74e1e3fc0eb4e83a1f274b1f01f5a01"), looks := true }, kinds := [], alts := [], laidByText := true, laidKinds := [.data, .data, .data, .data, .sentinel, .sentinel, .listed, .data, .pinned], laidTests := true, laidLooks := .later }
def DrawShapeCardSaid : Prop := Claim7.holds Tryz.pinned (.plain (OpenSpec.ofChange drawShapeSpec)) drawShapeCard

/-- THE SECOND FORM's CARD OF 'twistlocklaw41.DrawSmall'. -/
def drawSmallUptoCard : Claim7 := { stood := { row := drawSmallUptoRow, standIns := [], harness := (true, "acfdaa21eae9003f751382b76ec2f90fb74e1e3fc0eb4e83a1f274b1f01f5a01"), looks := true }, kinds := [], alts := [], laidByText := true, laidKinds := [.data, .data, .data, .data, .sentinel, .sentinel, .pinned], laidTests := true, laidLooks := .later }
def DrawSmallUptoCardSaid : Prop := Claim7.holds Tryz.pinned (.plain (OpenSpec.upto drawSmallSpec)) drawSmallUptoCard

/-- THE SECOND FORM's CARD OF 'twistlocklaw41.DrawAlone'. -/
def drawAloneUptoCard : Claim7 := { stood := { row := drawAloneUptoRow, standIns := [], harness := (true, "acfdaa21eae9003f751382b76ec2f90fb74e1e3fc0eb4e83a1f274b1f01f5a01"), looks := true }, kinds := [], alts := [], laidByText := true, laidKinds := [.data, .data, .data, .data, .sentinel, .sentinel, .pinned], laidTests := true, laidLooks := .later }
def DrawAloneUptoCardSaid : Prop := Claim7.holds Tryz.pinned (.plain (OpenSpec.upto drawAloneSpec)) drawAloneUptoCard

/-- THE SECOND FORM's CARD OF 'twistlocklaw41.DrawBack'. -/
def drawBackUptoCard : Claim7 := { stood := { row := drawBackUptoRow, standIns := [], harness := (true, "acfdaa21eae9003f751382b76ec2f90fb74e1e3fc0eb4e83a1f274b1f01f5a01"), looks := true }, kinds := [], alts := [], laidByText := true, laidKinds := [.data, .data, .data, .data, .sentinel, .sentinel, .pinned], laidTests := true, laidLooks := .later }
def DrawBackUptoCardSaid : Prop := Claim7.holds Tryz.pinned (.plain (OpenSpec.upto drawBackSpec)) drawBackUptoCard

/-- THE SECOND FORM's CARD OF 'twistlocklaw41.DrawWrong'. -/
def drawWrongUptoCard : Claim7 := { stood := { row := drawWrongUptoRow, standIns := [], harness := (true, "acfdaa21eae9003f751382b76ec2f90fb74e1e3fc0eb4e83a1f274b1f01f5a01"), looks := true }, kinds := [], alts := [], laidByText := true, laidKinds := [.data, .data, .data, .data, .sentinel, .sentinel, .pinned], laidTests := true, laidLooks := .later }
def DrawWrongUptoCardSaid : Prop := Claim7.holds Tryz.pinned (.plain (OpenSpec.upto drawWrongSpec)) drawWrongUptoCard

/-- THE SECOND FORM's CARD OF 'twistlocklaw41.DrawShape'. -/
def drawShapeUptoCard : Claim7 := { stood := { row := drawShapeUptoRow, standIns := [], harness := (true, "acfdaa21eae9003f751382b76ec2f90fb74e1e3fc0eb4e83a1f274b1f01f5a01"), looks := true }, kinds := [], alts := [], laidByText := true, laidKinds := [.data, .data, .data, .data, .sentinel, .sentinel, .listed, .data, .pinned], laidTests := true, laidLooks := .later }
def DrawShapeUptoCardSaid : Prop := Claim7.holds Tryz.pinned (.plain (OpenSpec.upto drawShapeSpec)) drawShapeUptoCard
end Rows
end Go.Proofs.YtjclmfaodngbfaaGreatDoor
