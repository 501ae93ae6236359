/-
  DERIVED. GIVEN WITH THE SEED: THE CARDS: each row of YtfaccbkibjkfjaaGreatDoorRows.lean that lists a variable, with what it lists TIED to the program's text (the seventh form; the later family's looks); each row that meets fmt, with fmt's text TOLD by the authors' own Lean function (tested against real Go, not proved from fmt's source: count such statements apart). THE CARD IS WHAT COUNTS. Prove the row's statement (the work); the ties are given (YtfaccbkibjkfjaaGreatDoorTie.lean); close each card by the builder's one call (the guide's Derived/Test/ToyasCard.lean, 'card_holds'). Laid BY PROGRAM, IN A SANDBOX (cutbox-door.mjs). By AI agents, Wed Nov 11 2026. No macro, syntax, notation, axiom, sorry.
-/
import Derived.Test.YtfaccbkibjkfjaaGreatDoorRows
import GoSem.ClaimSeven
namespace Go.Proofs.YtfaccbkibjkfjaaGreatDoor
namespace Rows

/-- THE TIED CARD OF 'twistlocklaw39.MessageWrites'. -/
def messageWritesCard : Claim7 := { stood := { row := messageWritesRow, standIns := [], harness := (true, "7ff842cea97a18ca419a68c5bbcb1e8531036d08aba9029bbbd437a0b52bdc45"), looks := true }, kinds := [], alts := [], laidByText := true, laidKinds := [.data, .data, .data, .data, .sentinel, .sentinel, .widerDeep, .data, .pinned], laidTests := true, laidLooks := .later }
def MessageWritesCardSaid : Prop := Claim7.holds Tryz.pinned (.plain (OpenSpec.ofChange messageWritesSpec)) messageWritesCard

/-- THE TIED CARD OF 'twistlocklaw39.MessageReads'. -/
def messageReadsCard : Claim7 := { stood := { row := messageReadsRow, standIns := [], harness := (true, "7ff842cea97a18ca419a68c5bbcb1e8531036d08aba9029bbbd437a0b52bdc45"), looks := true }, kinds := [], alts := [], laidByText := true, laidKinds := [.data, .data, .data, .data, .sentinel, .sentinel, .widerDeep, .data, .pinned], laidTests := true, laidLooks := .later }
def MessageReadsCardSaid : Prop := Claim7.holds Tryz.pinned (.plain (OpenSpec.ofChange messageReadsSpec)) messageReadsCard

/-- THE TIED CARD OF 'twistlocklaw39.MessageOf'. -/
def messageOfCard : Claim7 := { stood := { row := messageOfRow, standIns := [], harness := (true, "7ff842cea97a18ca419a68c5bbcb1e8531036d08aba9029bbbd437a0b52bdc45"), looks := true }, kinds := [], alts := [], laidByText := true, laidKinds := [.data, .data, .data, .data, .sentinel, .sentinel, .widerDeep, .data, .pinned], laidTests := true, laidLooks := .later }
def MessageOfCardSaid : Prop := Claim7.holds Tryz.pinned (.plain (OpenSpec.ofChange messageOfSpec)) messageOfCard

/-- THE TIED CARD OF 'twistlocklaw39.MessageSmall'. -/
def messageSmallCard : Claim7 := { stood := { row := messageSmallRow, standIns := [], harness := (true, "7ff842cea97a18ca419a68c5bbcb1e8531036d08aba9029bbbd437a0b52bdc45"), looks := true }, kinds := [], alts := [], laidByText := true, laidKinds := [.data, .data, .data, .data, .sentinel, .sentinel, .widerDeep, .data, .pinned], laidTests := true, laidLooks := .later }
def MessageSmallCardSaid : Prop := Claim7.holds Tryz.pinned (.plain (OpenSpec.ofChange messageSmallSpec)) messageSmallCard

/-- THE TIED CARD OF 'twistlocklaw39.MessageAgain'. -/
def messageAgainCard : Claim7 := { stood := { row := messageAgainRow, standIns := [], harness := (true, "7ff842cea97a18ca419a68c5bbcb1e8531036d08aba9029bbbd437a0b52bdc45"), looks := true }, kinds := [], alts := [], laidByText := true, laidKinds := [.data, .data, .data, .data, .sentinel, .sentinel, .widerDeep, .data, .data, .pinned], laidTests := true, laidLooks := .later }
def MessageAgainCardSaid : Prop := Claim7.holds Tryz.pinned (.plain (OpenSpec.ofChange messageAgainSpec)) messageAgainCard

/-- THE TIED CARD OF 'twistlocklaw39.MessageOther'. -/
def messageOtherCard : Claim7 := { stood := { row := messageOtherRow, standIns := [], harness := (true, "7ff842cea97a18ca419a68c5bbcb1e8531036d08aba9029bbbd437a0b52bdc45"), looks := true }, kinds := [], alts := [], laidByText := true, laidKinds := [.data, .data, .data, .data, .sentinel, .sentinel, .widerDeep, .data, .data, .pinned], laidTests := true, laidLooks := .later }
def MessageOtherCardSaid : Prop := Claim7.holds Tryz.pinned (.plain (OpenSpec.ofChange messageOtherSpec)) messageOtherCard

/-- THE TIED CARD OF 'twistlocklaw39.MessageWrong'. -/
def messageWrongCard : Claim7 := { stood := { row := messageWrongRow, standIns := [], harness := (true, "7ff842cea97a18ca419a68c5bbcb1e8531036d08aba9029bbbd437a0b52bdc45"), looks := true }, kinds := [], alts := [], laidByText := true, laidKinds := [.data, .data, .data, .data, .sentinel, .sentinel, .widerDeep, .data, .data, .pinned], laidTests := true, laidLooks := .later }
def MessageWrongCardSaid : Prop := Claim7.holds Tryz.pinned (.plain (OpenSpec.ofChange messageWrongSpec)) messageWrongCard

/-- THE TIED CARD OF 'twistlocklaw39.MessageBack'. -/
def messageBackCard : Claim7 := { stood := { row := messageBackRow, standIns := [], harness := (true, "7ff842cea97a18ca419a68c5bbcb1e8531036d08aba9029bbbd437a0b52bdc45"), looks := true }, kinds := [], alts := [], laidByText := true, laidKinds := [.data, .data, .data, .data, .sentinel, .sentinel, .widerDeep, .data, .data, .pinned], laidTests := true, laidLooks := .later }
def MessageBackCardSaid : Prop := Claim7.holds Tryz.pinned (.plain (OpenSpec.ofChange messageBackSpec)) messageBackCard

/-- THE SECOND FORM's CARD OF 'twistlocklaw39.MessageWrites'. -/
def messageWritesUptoCard : Claim7 := { stood := { row := messageWritesUptoRow, standIns := [], harness := (true, "7ff842cea97a18ca419a68c5bbcb1e8531036d08aba9029bbbd437a0b52bdc45"), looks := true }, kinds := [], alts := [], laidByText := true, laidKinds := [.data, .data, .data, .data, .sentinel, .sentinel, .widerDeep, .data, .pinned], laidTests := true, laidLooks := .later }
def MessageWritesUptoCardSaid : Prop := Claim7.holds Tryz.pinned (.plain (OpenSpec.upto messageWritesSpec)) messageWritesUptoCard

/-- THE SECOND FORM's CARD OF 'twistlocklaw39.MessageReads'. -/
def messageReadsUptoCard : Claim7 := { stood := { row := messageReadsUptoRow, standIns := [], harness := (true, "7ff842cea97a18ca419a68c5bbcb1e8531036d08aba9029bbbd437a0b52bdc45"), looks := true }, kinds := [], alts := [], laidByText := true, laidKinds := [.data, .data, .data, .data, .sentinel, .sentinel, .widerDeep, .data, .pinned], laidTests := true, laidLooks := .later }
def MessageReadsUptoCardSaid : Prop := Claim7.holds Tryz.pinned (.plain (OpenSpec.upto messageReadsSpec)) messageReadsUptoCard

/-- THE SECOND FORM's CARD OF 'twistlocklaw39.MessageOf'. -/
def messageOfUptoCard : Claim7 := { stood := { row := messageOfUptoRow, standIns := [], harness := (true, "7ff842cea97a18ca419a68c5bbcb1e8531036d08aba9029bbbd437a0b52bdc45"), looks := true }, kinds := [], alts := [], laidByText := true, laidKinds := [.data, .data, .data, .data, .sentinel, .sentinel, .widerDeep, .data, .pinned], laidTests := true, laidLooks := .later }
def MessageOfUptoCardSaid : Prop := Claim7.holds Tryz.pinned (.plain (OpenSpec.upto messageOfSpec)) messageOfUptoCard

/-- THE SECOND FORM's CARD OF 'twistlocklaw39.MessageSmall'. -/
def messageSmallUptoCard : Claim7 := { stood := { row := messageSmallUptoRow, standIns := [], harness := (true, "7ff842cea97a18ca419a68c5bbcb1e8531036d08aba9029bbbd437a0b52bdc45"), looks := true }, kinds := [], alts := [], laidByText := true, laidKinds := [.data, .data, .data, .data, .sentinel, .sentinel, .widerDeep, .data, .pinned], laidTests := true, laidLooks := .later }
def MessageSmallUptoCardSaid : Prop := Claim7.holds Tryz.pinned (.plain (OpenSpec.upto messageSmallSpec)) messageSmallUptoCard

/-- THE SECOND FORM's CARD OF 'twistlocklaw39.MessageAgain'. -/
def messageAgainUptoCard : Claim7 := { stood := { row := messageAgainUptoRow, standIns := [], harness := (true, "7ff842cea97a18ca419a68c5bbcb1e8531036d08aba9029bbbd437a0b52bdc45"), looks := true }, kinds := [], alts := [], laidByText := true, laidKinds := [.data, .data, .data, .data, .sentinel, .sentinel, .widerDeep, .data, .data, .pinned], laidTests := true, laidLooks := .later }
def MessageAgainUptoCardSaid : Prop := Claim7.holds Tryz.pinned (.plain (OpenSpec.upto messageAgainSpec)) messageAgainUptoCard

/-- THE SECOND FORM's CARD OF 'twistlocklaw39.MessageOther'. -/
def messageOtherUptoCard : Claim7 := { stood := { row := messageOtherUptoRow, standIns := [], harness := (true, "7ff842cea97a18ca419a68c5bbcb1e8531036d08aba9029bbbd437a0b52bdc45"), looks := true }, kinds := [], alts := [], laidByText := true, laidKinds := [.data, .data, .data, .data, .sentinel, .sentinel, .widerDeep, .data, .data, .pinned], laidTests := true, laidLooks := .later }
def MessageOtherUptoCardSaid : Prop := Claim7.holds Tryz.pinned (.plain (OpenSpec.upto messageOtherSpec)) messageOtherUptoCard

/-- THE SECOND FORM's CARD OF 'twistlocklaw39.MessageWrong'. -/
def messageWrongUptoCard : Claim7 := { stood := { row := messageWrongUptoRow, standIns := [], harness := (true, "7ff842cea97a18ca419a68c5bbcb1e8531036d08aba9029bbbd437a0b52bdc45"), looks := true }, kinds := [], alts := [], laidByText := true, laidKinds := [.data, .data, .data, .data, .sentinel, .sentinel, .widerDeep, .data, .data, .pinned], laidTests := true, laidLooks := .later }
def MessageWrongUptoCardSaid : Prop := Claim7.holds Tryz.pinned (.plain (OpenSpec.upto messageWrongSpec)) messageWrongUptoCard

/-- THE SECOND FORM's CARD OF 'twistlocklaw39.MessageBack'. -/
def messageBackUptoCard : Claim7 := { stood := { row := messageBackUptoRow, standIns := [], harness := (true, "7ff842cea97a18ca419a68c5bbcb1e8531036d08aba9029bbbd437a0b52bdc45"), looks := true }, kinds := [], alts := [], laidByText := true, laidKinds := [.data, .data, .data, .data, .sentinel, .sentinel, .widerDeep, .data, .data, .pinned], laidTests := true, laidLooks := .later }
def MessageBackUptoCardSaid : Prop := Claim7.holds Tryz.pinned (.plain (OpenSpec.upto messageBackSpec)) messageBackUptoCard
end Rows
end Go.Proofs.YtfaccbkibjkfjaaGreatDoor
