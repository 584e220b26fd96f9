/-
  DERIVED. GIVEN WITH THE SEED: THE CARDS: each row of YtjnenmbfojkoeaaGreatDoorRows.lean that lists a variable, with what it lists TIED to the program's text (the seventh form; the later family's looks); each row that meets fmt, with fmt's text TOLD by the authors' own Lean function (tested against real Go, not proved from fmt's source: count such statements apart). THE CARD IS WHAT COUNTS. Prove the row's statement (the work); the ties are given (YtjnenmbfojkoeaaGreatDoorTie.lean); close each card by the builder's one call (the guide's Derived/Test/ToyasCard.lean, 'card_holds'). Laid BY PROGRAM, IN A SANDBOX (cutbox-door.mjs). By AI agents, Wed Nov 11 2026. No macro, syntax, notation, axiom, sorry.
-/
import Derived.Test.YtjnenmbfojkoeaaGreatDoorRows
import GoSem.ClaimSeven
namespace Go.Proofs.YtjnenmbfojkoeaaGreatDoor
namespace Rows

/-- THE TIED CARD OF 'palinodelaw41.HistoryTells'. -/
def historyTellsCard : Claim7 := { stood := { row := historyTellsRow, standIns := [], harness := (true, "10fe2a48d5badb2575ec12454e08267ef4132cd7c55266829f274ce0264a3388"), looks := false }, kinds := [], alts := [], laidByText := true, laidKinds := [.data, .data, .data], laidTests := true, laidLooks := .later }
def HistoryTellsCardSaid : Prop := Claim7.holds Tryz.pinned (.plain (OpenSpec.ofChange historyTellsSpec)) historyTellsCard

/-- THE TIED CARD OF 'palinodelaw41.HistoryParts'. -/
def historyPartsCard : Claim7 := { stood := { row := historyPartsRow, standIns := [], harness := (true, "10fe2a48d5badb2575ec12454e08267ef4132cd7c55266829f274ce0264a3388"), looks := false }, kinds := [], alts := [], laidByText := true, laidKinds := [.data, .data, .data], laidTests := true, laidLooks := .later }
def HistoryPartsCardSaid : Prop := Claim7.holds Tryz.pinned (.plain (OpenSpec.ofChange historyPartsSpec)) historyPartsCard

/-- THE TIED CARD OF 'palinodelaw41.HistoryLast'. -/
def historyLastCard : Claim7 := { stood := { row := historyLastRow, standIns := [], harness := (true, "10fe2a48d5badb2575ec12454e08267ef4132cd7c55266829f274ce0264a3388"), looks := false }, kinds := [], alts := [], laidByText := true, laidKinds := [.data, .data, .data], laidTests := true, laidLooks := .later }
def HistoryLastCardSaid : Prop := Claim7.holds Tryz.pinned (.plain (OpenSpec.ofChange historyLastSpec)) historyLastCard

/-- THE TIED CARD OF 'palinodelaw22.StateGrows'. -/
def stateGrowsCard : Claim7 := { stood := { row := stateGrowsRow, standIns := [], harness := (true, "10fe2a48d5badb2575ec12454e08267ef4132cd7c55266829f274ce0264a3388"), looks := false }, kinds := [], alts := [], laidByText := true, laidKinds := [.data, .pinned], laidTests := true, laidLooks := .later }
def StateGrowsCardSaid : Prop := Claim7.holds Tryz.pinned (.plain (OpenSpec.ofChange stateGrowsSpec)) stateGrowsCard

/-- THE TIED CARD OF 'palinodelaw22.StateOrder'. -/
def stateOrderCard : Claim7 := { stood := { row := stateOrderRow, standIns := [], harness := (true, "10fe2a48d5badb2575ec12454e08267ef4132cd7c55266829f274ce0264a3388"), looks := false }, kinds := [], alts := [], laidByText := true, laidKinds := [.data, .pinned], laidTests := true, laidLooks := .later }
def StateOrderCardSaid : Prop := Claim7.holds Tryz.pinned (.plain (OpenSpec.ofChange stateOrderSpec)) stateOrderCard

/-- THE TIED CARD OF 'palinodelaw23.RecordTells'. -/
def recordTellsCard : Claim7 := { stood := { row := recordTellsRow, standIns := [], harness := (true, "10fe2a48d5badb2575ec12454e08267ef4132cd7c55266829f274ce0264a3388"), looks := false }, kinds := [], alts := [], laidByText := true, laidKinds := [.data, .pinned], laidTests := true, laidLooks := .later }
def RecordTellsCardSaid : Prop := Claim7.holds Tryz.pinned (.plain (OpenSpec.ofChange recordTellsSpec)) recordTellsCard

/-- THE TIED CARD OF 'palinodelaw22.StateReads'. -/
def stateReadsCard : Claim7 := { stood := { row := stateReadsRow, standIns := [], harness := (true, "10fe2a48d5badb2575ec12454e08267ef4132cd7c55266829f274ce0264a3388"), looks := false }, kinds := [], alts := [], laidByText := true, laidKinds := [.data, .pinned], laidTests := true, laidLooks := .later }
def StateReadsCardSaid : Prop := Claim7.holds Tryz.pinned (.plain (OpenSpec.ofChange stateReadsSpec)) stateReadsCard

/-- THE TIED CARD OF 'palinodelaw28.MessageTells'. -/
def messageTellsCard : Claim7 := { stood := { row := messageTellsRow, standIns := [], harness := (true, "10fe2a48d5badb2575ec12454e08267ef4132cd7c55266829f274ce0264a3388"), looks := false }, kinds := [], alts := [], laidByText := true, laidKinds := [.data, .pinned], laidTests := true, laidLooks := .later }
def MessageTellsCardSaid : Prop := Claim7.holds Tryz.pinned (.plain (OpenSpec.ofChange messageTellsSpec)) messageTellsCard

/-- THE TIED CARD OF 'palinodelaw28.MessageFinds'. -/
def messageFindsCard : Claim7 := { stood := { row := messageFindsRow, standIns := [], harness := (true, "10fe2a48d5badb2575ec12454e08267ef4132cd7c55266829f274ce0264a3388"), looks := false }, kinds := [], alts := [], laidByText := true, laidKinds := [.data, .pinned], laidTests := true, laidLooks := .later }
def MessageFindsCardSaid : Prop := Claim7.holds Tryz.pinned (.plain (OpenSpec.ofChange messageFindsSpec)) messageFindsCard

/-- THE TIED CARD OF 'palinodelaw23.RecordReads'. -/
def recordReadsCard : Claim7 := { stood := { row := recordReadsRow, standIns := [], harness := (true, "10fe2a48d5badb2575ec12454e08267ef4132cd7c55266829f274ce0264a3388"), looks := false }, kinds := [], alts := [], laidByText := true, laidKinds := [.data, .pinned], laidTests := true, laidLooks := .later }
def RecordReadsCardSaid : Prop := Claim7.holds Tryz.pinned (.plain (OpenSpec.ofChange recordReadsSpec)) recordReadsCard

/-- THE TIED CARD OF 'palinodelaw23.RecordParses'. -/
def recordParsesCard : Claim7 := { stood := { row := recordParsesRow, standIns := [], harness := (true, "10fe2a48d5badb2575ec12454e08267ef4132cd7c55266829f274ce0264a3388"), looks := false }, kinds := [], alts := [], laidByText := true, laidKinds := [.data, .pinned], laidTests := true, laidLooks := .later }
def RecordParsesCardSaid : Prop := Claim7.holds Tryz.pinned (.plain (OpenSpec.ofChange recordParsesSpec)) recordParsesCard

/-- THE SECOND FORM's CARD OF 'palinodelaw41.HistoryTells'. -/
def historyTellsUptoCard : Claim7 := { stood := { row := historyTellsUptoRow, standIns := [], harness := (true, "10fe2a48d5badb2575ec12454e08267ef4132cd7c55266829f274ce0264a3388"), looks := false }, kinds := [], alts := [], laidByText := true, laidKinds := [.data, .data, .data], laidTests := true, laidLooks := .later }
def HistoryTellsUptoCardSaid : Prop := Claim7.holds Tryz.pinned (.plain (OpenSpec.upto historyTellsSpec)) historyTellsUptoCard

/-- THE SECOND FORM's CARD OF 'palinodelaw41.HistoryParts'. -/
def historyPartsUptoCard : Claim7 := { stood := { row := historyPartsUptoRow, standIns := [], harness := (true, "10fe2a48d5badb2575ec12454e08267ef4132cd7c55266829f274ce0264a3388"), looks := false }, kinds := [], alts := [], laidByText := true, laidKinds := [.data, .data, .data], laidTests := true, laidLooks := .later }
def HistoryPartsUptoCardSaid : Prop := Claim7.holds Tryz.pinned (.plain (OpenSpec.upto historyPartsSpec)) historyPartsUptoCard

/-- THE SECOND FORM's CARD OF 'palinodelaw41.HistoryLast'. -/
def historyLastUptoCard : Claim7 := { stood := { row := historyLastUptoRow, standIns := [], harness := (true, "10fe2a48d5badb2575ec12454e08267ef4132cd7c55266829f274ce0264a3388"), looks := false }, kinds := [], alts := [], laidByText := true, laidKinds := [.data, .data, .data], laidTests := true, laidLooks := .later }
def HistoryLastUptoCardSaid : Prop := Claim7.holds Tryz.pinned (.plain (OpenSpec.upto historyLastSpec)) historyLastUptoCard

/-- THE SECOND FORM's CARD OF 'palinodelaw22.StateGrows'. -/
def stateGrowsUptoCard : Claim7 := { stood := { row := stateGrowsUptoRow, standIns := [], harness := (true, "10fe2a48d5badb2575ec12454e08267ef4132cd7c55266829f274ce0264a3388"), looks := false }, kinds := [], alts := [], laidByText := true, laidKinds := [.data, .pinned], laidTests := true, laidLooks := .later }
def StateGrowsUptoCardSaid : Prop := Claim7.holds Tryz.pinned (.plain (OpenSpec.upto stateGrowsSpec)) stateGrowsUptoCard

/-- THE SECOND FORM's CARD OF 'palinodelaw22.StateOrder'. -/
def stateOrderUptoCard : Claim7 := { stood := { row := stateOrderUptoRow, standIns := [], harness := (true, "10fe2a48d5badb2575ec12454e08267ef4132cd7c55266829f274ce0264a3388"), looks := false }, kinds := [], alts := [], laidByText := true, laidKinds := [.data, .pinned], laidTests := true, laidLooks := .later }
def StateOrderUptoCardSaid : Prop := Claim7.holds Tryz.pinned (.plain (OpenSpec.upto stateOrderSpec)) stateOrderUptoCard

/-- THE SECOND FORM's CARD OF 'palinodelaw23.RecordTells'. -/
def recordTellsUptoCard : Claim7 := { stood := { row := recordTellsUptoRow, standIns := [], harness := (true, "10fe2a48d5badb2575ec12454e08267ef4132cd7c55266829f274ce0264a3388"), looks := false }, kinds := [], alts := [], laidByText := true, laidKinds := [.data, .pinned], laidTests := true, laidLooks := .later }
def RecordTellsUptoCardSaid : Prop := Claim7.holds Tryz.pinned (.plain (OpenSpec.upto recordTellsSpec)) recordTellsUptoCard

/-- THE SECOND FORM's CARD OF 'palinodelaw22.StateReads'. -/
def stateReadsUptoCard : Claim7 := { stood := { row := stateReadsUptoRow, standIns := [], harness := (true, "10fe2a48d5badb2575ec12454e08267ef4132cd7c55266829f274ce0264a3388"), looks := false }, kinds := [], alts := [], laidByText := true, laidKinds := [.data, .pinned], laidTests := true, laidLooks := .later }
def StateReadsUptoCardSaid : Prop := Claim7.holds Tryz.pinned (.plain (OpenSpec.upto stateReadsSpec)) stateReadsUptoCard

/-- THE SECOND FORM's CARD OF 'palinodelaw28.MessageTells'. -/
def messageTellsUptoCard : Claim7 := { stood := { row := messageTellsUptoRow, standIns := [], harness := (true, "10fe2a48d5badb2575ec12454e08267ef4132cd7c55266829f274ce0264a3388"), looks := false }, kinds := [], alts := [], laidByText := true, laidKinds := [.data, .pinned], laidTests := true, laidLooks := .later }
def MessageTellsUptoCardSaid : Prop := Claim7.holds Tryz.pinned (.plain (OpenSpec.upto messageTellsSpec)) messageTellsUptoCard

/-- THE SECOND FORM's CARD OF 'palinodelaw28.MessageFinds'. -/
def messageFindsUptoCard : Claim7 := { stood := { row := messageFindsUptoRow, standIns := [], harness := (true, "10fe2a48d5badb2575ec12454e08267ef4132cd7c55266829f274ce0264a3388"), looks := false }, kinds := [], alts := [], laidByText := true, laidKinds := [.data, .pinned], laidTests := true, laidLooks := .later }
def MessageFindsUptoCardSaid : Prop := Claim7.holds Tryz.pinned (.plain (OpenSpec.upto messageFindsSpec)) messageFindsUptoCard

/-- THE SECOND FORM's CARD OF 'palinodelaw23.RecordReads'. -/
def recordReadsUptoCard : Claim7 := { stood := { row := recordReadsUptoRow, standIns := [], harness := (true, "10fe2a48d5badb2575ec12454e08267ef4132cd7c55266829f274ce0264a3388"), looks := false }, kinds := [], alts := [], laidByText := true, laidKinds := [.data, .pinned], laidTests := true, laidLooks := .later }
def RecordReadsUptoCardSaid : Prop := Claim7.holds Tryz.pinned (.plain (OpenSpec.upto recordReadsSpec)) recordReadsUptoCard

/-- THE SECOND FORM's CARD OF 'palinodelaw23.RecordParses'. -/
def recordParsesUptoCard : Claim7 := { stood := { row := recordParsesUptoRow, standIns := [], harness := (true, "10fe2a48d5badb2575ec12454e08267ef4132cd7c55266829f274ce0264a3388"), looks := false }, kinds := [], alts := [], laidByText := true, laidKinds := [.data, .pinned], laidTests := true, laidLooks := .later }
def RecordParsesUptoCardSaid : Prop := Claim7.holds Tryz.pinned (.plain (OpenSpec.upto recordParsesSpec)) recordParsesUptoCard
end Rows
end Go.Proofs.YtjnenmbfojkoeaaGreatDoor
