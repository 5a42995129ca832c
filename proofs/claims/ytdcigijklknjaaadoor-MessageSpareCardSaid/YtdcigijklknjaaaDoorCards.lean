/-
  DERIVED. GIVEN WITH THE SEED: THE CARDS: each row of YtdcigijklknjaaaDoorRows.lean that lists a variable, with what it lists TIED to the program's text (the seventh form; the later family's looks); each row that meets fmt, with fmt's text TOLD by the authors' own Lean function (tested against real Go, not proved from fmt's source: count such statements apart). THE CARD IS WHAT COUNTS. Prove the row's statement (the work); the ties are given (YtdcigijklknjaaaDoorTie.lean); close each card by the builder's one call (the guide's Derived/Test/ToyasCard.lean, 'card_holds'). Laid BY PROGRAM, IN A SANDBOX (cutbox-door.mjs). By AI agents, Wed Nov 11 2026. No macro, syntax, notation, axiom, sorry.
-/
import Derived.Test.YtdcigijklknjaaaDoorRows
import GoSem.ClaimSeven
namespace Go.Proofs.YtdcigijklknjaaaDoor
namespace Rows

/-- THE TIED CARD OF 'tailwaterlaw25.MessageNames'. -/
def messageNamesCard : Claim7 := { stood := { row := messageNamesRow, standIns := [], harness := (true, "d1af2db85a59e058aecdfac4222da8180140c7a48202934dd4ab9a69a0cb528d"), looks := true }, kinds := [], alts := [], laidByText := true, laidKinds := [.data, .data, .data, .data, .sentinel, .sentinel, .pinned], laidTests := true, laidLooks := .later }
def MessageNamesCardSaid : Prop := Claim7.holds Tryd.pinned (.plain (OpenSpec.ofChange messageNamesSpec)) messageNamesCard

/-- THE TIED CARD OF 'tailwaterlaw25.MessageEvents'. -/
def messageEventsCard : Claim7 := { stood := { row := messageEventsRow, standIns := [], harness := (true, "d1af2db85a59e058aecdfac4222da8180140c7a48202934dd4ab9a69a0cb528d"), looks := true }, kinds := [], alts := [], laidByText := true, laidKinds := [.data, .data, .data, .data, .sentinel, .sentinel, .pinned], laidTests := true, laidLooks := .later }
def MessageEventsCardSaid : Prop := Claim7.holds Tryd.pinned (.plain (OpenSpec.ofChange messageEventsSpec)) messageEventsCard

/-- THE TIED CARD OF 'tailwaterlaw25.MessageTells'. -/
def messageTellsCard : Claim7 := { stood := { row := messageTellsRow, standIns := [], harness := (true, "d1af2db85a59e058aecdfac4222da8180140c7a48202934dd4ab9a69a0cb528d"), looks := true }, kinds := [], alts := [], laidByText := true, laidKinds := [.data, .data, .data], laidTests := true, laidLooks := .later }
def MessageTellsCardSaid : Prop := Claim7.holds Tryd.pinned (.plain (OpenSpec.ofChange messageTellsSpec)) messageTellsCard

/-- THE TIED CARD OF 'tailwaterlaw01.IntsTexts'. -/
def intsTextsCard : Claim7 := { stood := { row := intsTextsRow, standIns := [], harness := (true, "d1af2db85a59e058aecdfac4222da8180140c7a48202934dd4ab9a69a0cb528d"), looks := true }, kinds := [], alts := [], laidByText := true, laidKinds := [.data, .data, .data, .data, .sentinel, .sentinel, .pinned], laidTests := true, laidLooks := .later }
def IntsTextsCardSaid : Prop := Claim7.holds Tryd.pinned (.plain (OpenSpec.ofChange intsTextsSpec)) intsTextsCard

/-- THE TIED CARD OF 'tailwaterlaw25.MessageReads'. -/
def messageReadsCard : Claim7 := { stood := { row := messageReadsRow, standIns := [], harness := (true, "d1af2db85a59e058aecdfac4222da8180140c7a48202934dd4ab9a69a0cb528d"), looks := true }, kinds := [], alts := [], laidByText := true, laidKinds := [.data, .data, .data, .data, .sentinel, .sentinel, .pinned], laidTests := true, laidLooks := .later }
def MessageReadsCardSaid : Prop := Claim7.holds Tryd.pinned (.plain (OpenSpec.ofChange messageReadsSpec)) messageReadsCard

/-- THE TIED CARD OF 'tailwaterlaw01.IntsRing'. -/
def intsRingCard : Claim7 := { stood := { row := intsRingRow, standIns := [], harness := (true, "d1af2db85a59e058aecdfac4222da8180140c7a48202934dd4ab9a69a0cb528d"), looks := true }, kinds := [], alts := [], laidByText := true, laidKinds := [.data, .data, .data, .data, .sentinel, .sentinel, .pinned], laidTests := true, laidLooks := .later }
def IntsRingCardSaid : Prop := Claim7.holds Tryd.pinned (.plain (OpenSpec.ofChange intsRingSpec)) intsRingCard

/-- THE TIED CARD OF 'tailwaterlaw01.IntsShifts'. -/
def intsShiftsCard : Claim7 := { stood := { row := intsShiftsRow, standIns := [], harness := (true, "d1af2db85a59e058aecdfac4222da8180140c7a48202934dd4ab9a69a0cb528d"), looks := true }, kinds := [], alts := [], laidByText := true, laidKinds := [.data, .data, .data, .data, .sentinel, .sentinel, .pinned], laidTests := true, laidLooks := .later }
def IntsShiftsCardSaid : Prop := Claim7.holds Tryd.pinned (.plain (OpenSpec.ofChange intsShiftsSpec)) intsShiftsCard

/-- THE TIED CARD OF 'tailwaterlaw01.IntsOrder'. -/
def intsOrderCard : Claim7 := { stood := { row := intsOrderRow, standIns := [], harness := (true, "d1af2db85a59e058aecdfac4222da8180140c7a48202934dd4ab9a69a0cb528d"), looks := true }, kinds := [], alts := [], laidByText := true, laidKinds := [.data, .data, .data, .data, .sentinel, .sentinel, .pinned], laidTests := true, laidLooks := .later }
def IntsOrderCardSaid : Prop := Claim7.holds Tryd.pinned (.plain (OpenSpec.ofChange intsOrderSpec)) intsOrderCard

/-- THE TIED CARD OF 'tailwaterlaw01.IntsNames'. -/
def intsNamesCard : Claim7 := { stood := { row := intsNamesRow, standIns := [], harness := (true, "d1af2db85a59e058aecdfac4222da8180140c7a48202934dd4ab9a69a0cb528d"), looks := true }, kinds := [], alts := [], laidByText := true, laidKinds := [.data, .data, .data, .data, .sentinel, .sentinel, .pinned], laidTests := true, laidLooks := .later }
def IntsNamesCardSaid : Prop := Claim7.holds Tryd.pinned (.plain (OpenSpec.ofChange intsNamesSpec)) intsNamesCard

/-- THE TIED CARD OF 'tailwaterlaw01.IntsWritten'. -/
def intsWrittenCard : Claim7 := { stood := { row := intsWrittenRow, standIns := [], harness := (true, "d1af2db85a59e058aecdfac4222da8180140c7a48202934dd4ab9a69a0cb528d"), looks := true }, kinds := [], alts := [], laidByText := true, laidKinds := [.data, .data, .data, .data, .sentinel, .sentinel, .pinned], laidTests := true, laidLooks := .later }
def IntsWrittenCardSaid : Prop := Claim7.holds Tryd.pinned (.plain (OpenSpec.ofChange intsWrittenSpec)) intsWrittenCard

/-- THE TIED CARD OF 'tailwaterlaw25.MessageOnce'. -/
def messageOnceCard : Claim7 := { stood := { row := messageOnceRow, standIns := [], harness := (true, "d1af2db85a59e058aecdfac4222da8180140c7a48202934dd4ab9a69a0cb528d"), looks := true }, kinds := [], alts := [], laidByText := true, laidKinds := [.data, .data, .data, .data, .sentinel, .sentinel, .pinned], laidTests := true, laidLooks := .later }
def MessageOnceCardSaid : Prop := Claim7.holds Tryd.pinned (.plain (OpenSpec.ofChange messageOnceSpec)) messageOnceCard

/-- THE TIED CARD OF 'tailwaterlaw25.MessageBack'. -/
def messageBackCard : Claim7 := { stood := { row := messageBackRow, standIns := [], harness := (true, "d1af2db85a59e058aecdfac4222da8180140c7a48202934dd4ab9a69a0cb528d"), looks := true }, kinds := [], alts := [], laidByText := true, laidKinds := [.data, .data, .data, .data, .sentinel, .sentinel, .pinned], laidTests := true, laidLooks := .later }
def MessageBackCardSaid : Prop := Claim7.holds Tryd.pinned (.plain (OpenSpec.ofChange messageBackSpec)) messageBackCard

/-- THE TIED CARD OF 'tailwaterlaw25.MessageSpare'. -/
def messageSpareCard : Claim7 := { stood := { row := messageSpareRow, standIns := [], harness := (true, "d1af2db85a59e058aecdfac4222da8180140c7a48202934dd4ab9a69a0cb528d"), looks := true }, kinds := [], alts := [], laidByText := true, laidKinds := [.data, .data, .data, .data, .sentinel, .sentinel, .pinned], laidTests := true, laidLooks := .later }
def MessageSpareCardSaid : Prop := Claim7.holds Tryd.pinned (.plain (OpenSpec.ofChange messageSpareSpec)) messageSpareCard

/-- THE SECOND FORM's CARD OF 'tailwaterlaw25.MessageNames'. -/
def messageNamesUptoCard : Claim7 := { stood := { row := messageNamesUptoRow, standIns := [], harness := (true, "d1af2db85a59e058aecdfac4222da8180140c7a48202934dd4ab9a69a0cb528d"), looks := true }, kinds := [], alts := [], laidByText := true, laidKinds := [.data, .data, .data, .data, .sentinel, .sentinel, .pinned], laidTests := true, laidLooks := .later }
def MessageNamesUptoCardSaid : Prop := Claim7.holds Tryd.pinned (.plain (OpenSpec.upto messageNamesSpec)) messageNamesUptoCard

/-- THE SECOND FORM's CARD OF 'tailwaterlaw25.MessageEvents'. -/
def messageEventsUptoCard : Claim7 := { stood := { row := messageEventsUptoRow, standIns := [], harness := (true, "d1af2db85a59e058aecdfac4222da8180140c7a48202934dd4ab9a69a0cb528d"), looks := true }, kinds := [], alts := [], laidByText := true, laidKinds := [.data, .data, .data, .data, .sentinel, .sentinel, .pinned], laidTests := true, laidLooks := .later }
def MessageEventsUptoCardSaid : Prop := Claim7.holds Tryd.pinned (.plain (OpenSpec.upto messageEventsSpec)) messageEventsUptoCard

/-- THE SECOND FORM's CARD OF 'tailwaterlaw25.MessageTells'. -/
def messageTellsUptoCard : Claim7 := { stood := { row := messageTellsUptoRow, standIns := [], harness := (true, "d1af2db85a59e058aecdfac4222da8180140c7a48202934dd4ab9a69a0cb528d"), looks := true }, kinds := [], alts := [], laidByText := true, laidKinds := [.data, .data, .data], laidTests := true, laidLooks := .later }
def MessageTellsUptoCardSaid : Prop := Claim7.holds Tryd.pinned (.plain (OpenSpec.upto messageTellsSpec)) messageTellsUptoCard

/-- THE SECOND FORM's CARD OF 'tailwaterlaw01.IntsTexts'. -/
def intsTextsUptoCard : Claim7 := { stood := { row := intsTextsUptoRow, standIns := [], harness := (true, "d1af2db85a59e058aecdfac4222da8180140c7a48202934dd4ab9a69a0cb528d"), looks := true }, kinds := [], alts := [], laidByText := true, laidKinds := [.data, .data, .data, .data, .sentinel, .sentinel, .pinned], laidTests := true, laidLooks := .later }
def IntsTextsUptoCardSaid : Prop := Claim7.holds Tryd.pinned (.plain (OpenSpec.upto intsTextsSpec)) intsTextsUptoCard

/-- THE SECOND FORM's CARD OF 'tailwaterlaw25.MessageReads'. -/
def messageReadsUptoCard : Claim7 := { stood := { row := messageReadsUptoRow, standIns := [], harness := (true, "d1af2db85a59e058aecdfac4222da8180140c7a48202934dd4ab9a69a0cb528d"), looks := true }, kinds := [], alts := [], laidByText := true, laidKinds := [.data, .data, .data, .data, .sentinel, .sentinel, .pinned], laidTests := true, laidLooks := .later }
def MessageReadsUptoCardSaid : Prop := Claim7.holds Tryd.pinned (.plain (OpenSpec.upto messageReadsSpec)) messageReadsUptoCard

/-- THE SECOND FORM's CARD OF 'tailwaterlaw01.IntsRing'. -/
def intsRingUptoCard : Claim7 := { stood := { row := intsRingUptoRow, standIns := [], harness := (true, "d1af2db85a59e058aecdfac4222da8180140c7a48202934dd4ab9a69a0cb528d"), looks := true }, kinds := [], alts := [], laidByText := true, laidKinds := [.data, .data, .data, .data, .sentinel, .sentinel, .pinned], laidTests := true, laidLooks := .later }
def IntsRingUptoCardSaid : Prop := Claim7.holds Tryd.pinned (.plain (OpenSpec.upto intsRingSpec)) intsRingUptoCard

/-- THE SECOND FORM's CARD OF 'tailwaterlaw01.IntsShifts'. -/
def intsShiftsUptoCard : Claim7 := { stood := { row := intsShiftsUptoRow, standIns := [], harness := (true, "d1af2db85a59e058aecdfac4222da8180140c7a48202934dd4ab9a69a0cb528d"), looks := true }, kinds := [], alts := [], laidByText := true, laidKinds := [.data, .data, .data, .data, .sentinel, .sentinel, .pinned], laidTests := true, laidLooks := .later }
def IntsShiftsUptoCardSaid : Prop := Claim7.holds Tryd.pinned (.plain (OpenSpec.upto intsShiftsSpec)) intsShiftsUptoCard

/-- THE SECOND FORM's CARD OF 'tailwaterlaw01.IntsOrder'. -/
def intsOrderUptoCard : Claim7 := { stood := { row := intsOrderUptoRow, standIns := [], harness := (true, "d1af2db85a59e058aecdfac4222da8180140c7a48202934dd4ab9a69a0cb528d"), looks := true }, kinds := [], alts := [], laidByText := true, laidKinds := [.data, .data, .data, .data, .sentinel, .sentinel, .pinned], laidTests := true, laidLooks := .later }
def IntsOrderUptoCardSaid : Prop := Claim7.holds Tryd.pinned (.plain (OpenSpec.upto intsOrderSpec)) intsOrderUptoCard

/-- THE SECOND FORM's CARD OF 'tailwaterlaw01.IntsNames'. -/
def intsNamesUptoCard : Claim7 := { stood := { row := intsNamesUptoRow, standIns := [], harness := (true, "d1af2db85a59e058aecdfac4222da8180140c7a48202934dd4ab9a69a0cb528d"), looks := true }, kinds := [], alts := [], laidByText := true, laidKinds := [.data, .data, .data, .data, .sentinel, .sentinel, .pinned], laidTests := true, laidLooks := .later }
def IntsNamesUptoCardSaid : Prop := Claim7.holds Tryd.pinned (.plain (OpenSpec.upto intsNamesSpec)) intsNamesUptoCard

/-- THE SECOND FORM's CARD OF 'tailwaterlaw01.IntsWritten'. -/
def intsWrittenUptoCard : Claim7 := { stood := { row := intsWrittenUptoRow, standIns := [], harness := (true, "d1af2db85a59e058aecdfac4222da8180140c7a48202934dd4ab9a69a0cb528d"), looks := true }, kinds := [], alts := [], laidByText := true, laidKinds := [.data, .data, .data, .data, .sentinel, .sentinel, .pinned], laidTests := true, laidLooks := .later }
def IntsWrittenUptoCardSaid : Prop := Claim7.holds Tryd.pinned (.plain (OpenSpec.upto intsWrittenSpec)) intsWrittenUptoCard

/-- THE SECOND FORM's CARD OF 'tailwaterlaw25.MessageOnce'. -/
def messageOnceUptoCard : Claim7 := { stood := { row := messageOnceUptoRow, standIns := [], harness := (true, "d1af2db85a59e058aecdfac4222da8180140c7a48202934dd4ab9a69a0cb528d"), looks := true }, kinds := [], alts := [], laidByText := true, laidKinds := [.data, .data, .data, .data, .sentinel, .sentinel, .pinned], laidTests := true, laidLooks := .later }
def MessageOnceUptoCardSaid : Prop := Claim7.holds Tryd.pinned (.plain (OpenSpec.upto messageOnceSpec)) messageOnceUptoCard

/-- THE SECOND FORM's CARD OF 'tailwaterlaw25.MessageBack'. -/
def messageBackUptoCard : Claim7 := { stood := { row := messageBackUptoRow, standIns := [], harness := (true, "d1af2db85a59e058aecdfac4222da8180140c7a48202934dd4ab9a69a0cb528d"), looks := true }, kinds := [], alts := [], laidByText := true, laidKinds := [.data, .data, .data, .data, .sentinel, .sentinel, .pinned], laidTests := true, laidLooks := .later }
def MessageBackUptoCardSaid : Prop := Claim7.holds Tryd.pinned (.plain (OpenSpec.upto messageBackSpec)) messageBackUptoCard

/-- THE SECOND FORM's CARD OF 'tailwaterlaw25.MessageSpare'. -/
def messageSpareUptoCard : Claim7 := { stood := { row := messageSpareUptoRow, standIns := [], harness := (true, "d1af2db85a59e058aecdfac4222da8180140c7a48202934dd4ab9a69a0cb528d"), looks := true }, kinds := [], alts := [], laidByText := true, laidKinds := [.data, .data, .data, .data, .sentinel, .sentinel, .pinned], laidTests := true, laidLooks := .later }
def MessageSpareUptoCardSaid : Prop := Claim7.holds Tryd.pinned (.plain (OpenSpec.upto messageSpareSpec)) messageSpareUptoCard
end Rows
end Go.Proofs.YtdcigijklknjaaaDoor
