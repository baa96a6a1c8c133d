/-
  DERIVED. GIVEN WITH THE SEED: THE CARDS: each row of YtkdpdgpphpngeaaDoorRows.lean that lists a variable, with what it lists TIED to the program's text (the seventh form; the later family's looks); each row that meets fmt, with fmt's text TOLD by the authors' own Lean function (tested against real Go, not proved from fmt's source: count such statements apart). THE CARD IS WHAT COUNTS. Prove the row's statement (the work); the ties are given (YtkdpdgpphpngeaaDoorTie.lean); close each card by the builder's one call (the guide's Derived/Test/ToyasCard.lean, 'card_holds'). Laid BY PROGRAM, IN A SANDBOX (cutbox-door.mjs). By AI agents, Wed Nov 11 2026. No macro, syntax, notation, axiom, sorry.
-/
import Derived.Test.YtkdpdgpphpngeaaDoorRows
import GoSem.ClaimSeven
namespace Go.Proofs.YtkdpdgpphpngeaaDoor
namespace Rows

/-- THE TIED CARD OF 'entrustlaw14.WireRequests'. -/
def wireRequestsCard : Claim7 := { stood := { row := wireRequestsRow, standIns := [], harness := (true, "2d70f5c833bfb7bc8de243230ee047973e9693ede75340627c994262dff806d2"), looks := true }, kinds := [], alts := [], laidByText := true, laidKinds := [.data], laidTests := true, laidLooks := .later }
def WireRequestsCardSaid : Prop := Claim7.holds Tryd.pinned (.plain (OpenSpec.ofChange wireRequestsSpec)) wireRequestsCard

/-- THE TIED CARD OF 'entrustlaw15.LinkSeals'. -/
def linkSealsCard : Claim7 := { stood := { row := linkSealsRow, standIns := [], harness := (true, "2d70f5c833bfb7bc8de243230ee047973e9693ede75340627c994262dff806d2"), looks := true }, kinds := [], alts := [], laidByText := true, laidKinds := [.data, .data, .data, .data], laidTests := true, laidLooks := .later }
def LinkSealsCardSaid : Prop := Claim7.holds Tryd.pinned (.plain (OpenSpec.ofChange linkSealsSpec)) linkSealsCard

/-- THE TIED CARD OF 'entrustlaw15.LinkSizes'. -/
def linkSizesCard : Claim7 := { stood := { row := linkSizesRow, standIns := [], harness := (true, "2d70f5c833bfb7bc8de243230ee047973e9693ede75340627c994262dff806d2"), looks := true }, kinds := [], alts := [], laidByText := true, laidKinds := [.data, .data], laidTests := true, laidLooks := .later }
def LinkSizesCardSaid : Prop := Claim7.holds Tryd.pinned (.plain (OpenSpec.ofChange linkSizesSpec)) linkSizesCard

/-- THE TIED CARD OF 'entrustlaw14.WireReplies'. -/
def wireRepliesCard : Claim7 := { stood := { row := wireRepliesRow, standIns := [], harness := (true, "2d70f5c833bfb7bc8de243230ee047973e9693ede75340627c994262dff806d2"), looks := true }, kinds := [], alts := [], laidByText := true, laidKinds := [.data], laidTests := true, laidLooks := .later }
def WireRepliesCardSaid : Prop := Claim7.holds Tryd.pinned (.plain (OpenSpec.ofChange wireRepliesSpec)) wireRepliesCard

/-- THE TIED CARD OF 'entrustlaw15.LinkOpens'. -/
def linkOpensCard : Claim7 := { stood := { row := linkOpensRow, standIns := [], harness := (true, "2d70f5c833bfb7bc8de243230ee047973e9693ede75340627c994262dff806d2"), looks := true }, kinds := [], alts := [], laidByText := true, laidKinds := [.data, .data, .data, .data], laidTests := true, laidLooks := .later }
def LinkOpensCardSaid : Prop := Claim7.holds Tryd.pinned (.plain (OpenSpec.ofChange linkOpensSpec)) linkOpensCard

/-- THE TIED CARD OF 'entrustlaw15.LinkBack'. -/
def linkBackCard : Claim7 := { stood := { row := linkBackRow, standIns := [], harness := (true, "2d70f5c833bfb7bc8de243230ee047973e9693ede75340627c994262dff806d2"), looks := true }, kinds := [], alts := [], laidByText := true, laidKinds := [.data, .data, .data, .data], laidTests := true, laidLooks := .later }
def LinkBackCardSaid : Prop := Claim7.holds Tryd.pinned (.plain (OpenSpec.ofChange linkBackSpec)) linkBackCard

/-- THE TIED CARD OF 'entrustlaw13.TicketSigns'. -/
def ticketSignsCard : Claim7 := { stood := { row := ticketSignsRow, standIns := [], harness := (true, "2d70f5c833bfb7bc8de243230ee047973e9693ede75340627c994262dff806d2"), looks := true }, kinds := [], alts := [], laidByText := true, laidKinds := [.data, .data, .data, .data], laidTests := true, laidLooks := .later }
def TicketSignsCardSaid : Prop := Claim7.holds Tryd.pinned (.plain (OpenSpec.ofChange ticketSignsSpec)) ticketSignsCard

/-- THE TIED CARD OF 'entrustlaw14.WireParses'. -/
def wireParsesCard : Claim7 := { stood := { row := wireParsesRow, standIns := [], harness := (true, "2d70f5c833bfb7bc8de243230ee047973e9693ede75340627c994262dff806d2"), looks := true }, kinds := [], alts := [], laidByText := true, laidKinds := [.data], laidTests := true, laidLooks := .later }
def WireParsesCardSaid : Prop := Claim7.holds Tryd.pinned (.plain (OpenSpec.ofChange wireParsesSpec)) wireParsesCard

/-- THE TIED CARD OF 'entrustlaw13.TicketParses'. -/
def ticketParsesCard : Claim7 := { stood := { row := ticketParsesRow, standIns := [], harness := (true, "2d70f5c833bfb7bc8de243230ee047973e9693ede75340627c994262dff806d2"), looks := true }, kinds := [], alts := [], laidByText := true, laidKinds := [.data, .data], laidTests := true, laidLooks := .later }
def TicketParsesCardSaid : Prop := Claim7.holds Tryd.pinned (.plain (OpenSpec.ofChange ticketParsesSpec)) ticketParsesCard

/-- THE TIED CARD OF 'entrustlaw13.TicketBack'. -/
def ticketBackCard : Claim7 := { stood := { row := ticketBackRow, standIns := [], harness := (true, "2d70f5c833bfb7bc8de243230ee047973e9693ede75340627c994262dff806d2"), looks := true }, kinds := [], alts := [], laidByText := true, laidKinds := [.data, .data, .data, .data], laidTests := true, laidLooks := .later }
def TicketBackCardSaid : Prop := Claim7.holds Tryd.pinned (.plain (OpenSpec.ofChange ticketBackSpec)) ticketBackCard

/-- THE TIED CARD OF 'entrustlaw13.TicketOrders'. -/
def ticketOrdersCard : Claim7 := { stood := { row := ticketOrdersRow, standIns := [], harness := (true, "2d70f5c833bfb7bc8de243230ee047973e9693ede75340627c994262dff806d2"), looks := true }, kinds := [], alts := [], laidByText := true, laidKinds := [.data, .data, .data, .data], laidTests := true, laidLooks := .later }
def TicketOrdersCardSaid : Prop := Claim7.holds Tryd.pinned (.plain (OpenSpec.ofChange ticketOrdersSpec)) ticketOrdersCard

/-- THE TIED CARD OF 'entrustlaw14.WireWords'. -/
def wireWordsCard : Claim7 := { stood := { row := wireWordsRow, standIns := [], harness := (true, "2d70f5c833bfb7bc8de243230ee047973e9693ede75340627c994262dff806d2"), looks := true }, kinds := [], alts := [], laidByText := true, laidKinds := [.data], laidTests := true, laidLooks := .later }
def WireWordsCardSaid : Prop := Claim7.holds Tryd.pinned (.plain (OpenSpec.ofChange wireWordsSpec)) wireWordsCard

/-- THE TIED CARD OF 'entrustlaw14.WireBack'. -/
def wireBackCard : Claim7 := { stood := { row := wireBackRow, standIns := [], harness := (true, "2d70f5c833bfb7bc8de243230ee047973e9693ede75340627c994262dff806d2"), looks := true }, kinds := [], alts := [], laidByText := true, laidKinds := [.data], laidTests := true, laidLooks := .later }
def WireBackCardSaid : Prop := Claim7.holds Tryd.pinned (.plain (OpenSpec.ofChange wireBackSpec)) wireBackCard

/-- THE TIED CARD OF 'entrustlaw13.TicketSeals'. -/
def ticketSealsCard : Claim7 := { stood := { row := ticketSealsRow, standIns := [], harness := (true, "2d70f5c833bfb7bc8de243230ee047973e9693ede75340627c994262dff806d2"), looks := true }, kinds := [], alts := [], laidByText := true, laidKinds := [.data, .data, .data, .data], laidTests := true, laidLooks := .later }
def TicketSealsCardSaid : Prop := Claim7.holds Tryd.pinned (.plain (OpenSpec.ofChange ticketSealsSpec)) ticketSealsCard

/-- THE SECOND FORM's CARD OF 'entrustlaw14.WireRequests'. -/
def wireRequestsUptoCard : Claim7 := { stood := { row := wireRequestsUptoRow, standIns := [], harness := (true, "2d70f5c833bfb7bc8de243230ee047973e9693ede75340627c994262dff806d2"), looks := true }, kinds := [], alts := [], laidByText := true, laidKinds := [.data], laidTests := true, laidLooks := .later }
def WireRequestsUptoCardSaid : Prop := Claim7.holds Tryd.pinned (.plain (OpenSpec.upto wireRequestsSpec)) wireRequestsUptoCard

/-- THE SECOND FORM's CARD OF 'entrustlaw15.LinkSeals'. -/
def linkSealsUptoCard : Claim7 := { stood := { row := linkSealsUptoRow, standIns := [], harness := (true, "2d70f5c833bfb7bc8de243230ee047973e9693ede75340627c994262dff806d2"), looks := true }, kinds := [], alts := [], laidByText := true, laidKinds := [.data, .data, .data, .data], laidTests := true, laidLooks := .later }
def LinkSealsUptoCardSaid : Prop := Claim7.holds Tryd.pinned (.plain (OpenSpec.upto linkSealsSpec)) linkSealsUptoCard

/-- THE SECOND FORM's CARD OF 'entrustlaw15.LinkSizes'. -/
def linkSizesUptoCard : Claim7 := { stood := { row := linkSizesUptoRow, standIns := [], harness := (true, "2d70f5c833bfb7bc8de243230ee047973e9693ede75340627c994262dff806d2"), looks := true }, kinds := [], alts := [], laidByText := true, laidKinds := [.data, .data], laidTests := true, laidLooks := .later }
def LinkSizesUptoCardSaid : Prop := Claim7.holds Tryd.pinned (.plain (OpenSpec.upto linkSizesSpec)) linkSizesUptoCard

/-- THE SECOND FORM's CARD OF 'entrustlaw14.WireReplies'. -/
def wireRepliesUptoCard : Claim7 := { stood := { row := wireRepliesUptoRow, standIns := [], harness := (true, "2d70f5c833bfb7bc8de243230ee047973e9693ede75340627c994262dff806d2"), looks := true }, kinds := [], alts := [], laidByText := true, laidKinds := [.data], laidTests := true, laidLooks := .later }
def WireRepliesUptoCardSaid : Prop := Claim7.holds Tryd.pinned (.plain (OpenSpec.upto wireRepliesSpec)) wireRepliesUptoCard

/-- THE SECOND FORM's CARD OF 'entrustlaw15.LinkOpens'. -/
def linkOpensUptoCard : Claim7 := { stood := { row := linkOpensUptoRow, standIns := [], harness := (true, "2d70f5c833bfb7bc8de243230ee047973e9693ede75340627c994262dff806d2"), looks := true }, kinds := [], alts := [], laidByText := true, laidKinds := [.data, .data, .data, .data], laidTests := true, laidLooks := .later }
def LinkOpensUptoCardSaid : Prop := Claim7.holds Tryd.pinned (.plain (OpenSpec.upto linkOpensSpec)) linkOpensUptoCard

/-- THE SECOND FORM's CARD OF 'entrustlaw15.LinkBack'. -/
def linkBackUptoCard : Claim7 := { stood := { row := linkBackUptoRow, standIns := [], harness := (true, "2d70f5c833bfb7bc8de243230ee047973e9693ede75340627c994262dff806d2"), looks := true }, kinds := [], alts := [], laidByText := true, laidKinds := [.data, .data, .data, .data], laidTests := true, laidLooks := .later }
def LinkBackUptoCardSaid : Prop := Claim7.holds Tryd.pinned (.plain (OpenSpec.upto linkBackSpec)) linkBackUptoCard

/-- THE SECOND FORM's CARD OF 'entrustlaw13.TicketSigns'. -/
def ticketSignsUptoCard : Claim7 := { stood := { row := ticketSignsUptoRow, standIns := [], harness := (true, "2d70f5c833bfb7bc8de243230ee047973e9693ede75340627c994262dff806d2"), looks := true }, kinds := [], alts := [], laidByText := true, laidKinds := [.data, .data, .data, .data], laidTests := true, laidLooks := .later }
def TicketSignsUptoCardSaid : Prop := Claim7.holds Tryd.pinned (.plain (OpenSpec.upto ticketSignsSpec)) ticketSignsUptoCard

/-- THE SECOND FORM's CARD OF 'entrustlaw14.WireParses'. -/
def wireParsesUptoCard : Claim7 := { stood := { row := wireParsesUptoRow, standIns := [], harness := (true, "2d70f5c833bfb7bc8de243230ee047973e9693ede75340627c994262dff806d2"), looks := true }, kinds := [], alts := [], laidByText := true, laidKinds := [.data], laidTests := true, laidLooks := .later }
def WireParsesUptoCardSaid : Prop := Claim7.holds Tryd.pinned (.plain (OpenSpec.upto wireParsesSpec)) wireParsesUptoCard

/-- THE SECOND FORM's CARD OF 'entrustlaw13.TicketParses'. -/
def ticketParsesUptoCard : Claim7 := { stood := { row := ticketParsesUptoRow, standIns := [], harness := (true, "2d70f5c833bfb7bc8de243230ee047973e9693ede75340627c994262dff806d2"), looks := true }, kinds := [], alts := [], laidByText := true, laidKinds := [.data, .data], laidTests := true, laidLooks := .later }
def TicketParsesUptoCardSaid : Prop := Claim7.holds Tryd.pinned (.plain (OpenSpec.upto ticketParsesSpec)) ticketParsesUptoCard

/-- THE SECOND FORM's CARD OF 'entrustlaw13.TicketBack'. -/
def ticketBackUptoCard : Claim7 := { stood := { row := ticketBackUptoRow, standIns := [], harness := (true, "2d70f5c833bfb7bc8de243230ee047973e9693ede75340627c994262dff806d2"), looks := true }, kinds := [], alts := [], laidByText := true, laidKinds := [.data, .data, .data, .data], laidTests := true, laidLooks := .later }
def TicketBackUptoCardSaid : Prop := Claim7.holds Tryd.pinned (.plain (OpenSpec.upto ticketBackSpec)) ticketBackUptoCard

/-- THE SECOND FORM's CARD OF 'entrustlaw13.TicketOrders'. -/
def ticketOrdersUptoCard : Claim7 := { stood := { row := ticketOrdersUptoRow, standIns := [], harness := (true, "2d70f5c833bfb7bc8de243230ee047973e9693ede75340627c994262dff806d2"), looks := true }, kinds := [], alts := [], laidByText := true, laidKinds := [.data, .data, .data, .data], laidTests := true, laidLooks := .later }
def TicketOrdersUptoCardSaid : Prop := Claim7.holds Tryd.pinned (.plain (OpenSpec.upto ticketOrdersSpec)) ticketOrdersUptoCard

/-- THE SECOND FORM's CARD OF 'entrustlaw14.WireWords'. -/
def wireWordsUptoCard : Claim7 := { stood := { row := wireWordsUptoRow, standIns := [], harness := (true, "2d70f5c833bfb7bc8de243230ee047973e9693ede75340627c994262dff806d2"), looks := true }, kinds := [], alts := [], laidByText := true, laidKinds := [.data], laidTests := true, laidLooks := .later }
def WireWordsUptoCardSaid : Prop := Claim7.holds Tryd.pinned (.plain (OpenSpec.upto wireWordsSpec)) wireWordsUptoCard

/-- THE SECOND FORM's CARD OF 'entrustlaw14.WireBack'. -/
def wireBackUptoCard : Claim7 := { stood := { row := wireBackUptoRow, standIns := [], harness := (true, "2d70f5c833bfb7bc8de243230ee047973e9693ede75340627c994262dff806d2"), looks := true }, kinds := [], alts := [], laidByText := true, laidKinds := [.data], laidTests := true, laidLooks := .later }
def WireBackUptoCardSaid : Prop := Claim7.holds Tryd.pinned (.plain (OpenSpec.upto wireBackSpec)) wireBackUptoCard

/-- THE SECOND FORM's CARD OF 'entrustlaw13.TicketSeals'. -/
def ticketSealsUptoCard : Claim7 := { stood := { row := ticketSealsUptoRow, standIns := [], harness := (true, "2d70f5c833bfb7bc8de243230ee047973e9693ede75340627c994262dff806d2"), looks := true }, kinds := [], alts := [], laidByText := true, laidKinds := [.data, .data, .data, .data], laidTests := true, laidLooks := .later }
def TicketSealsUptoCardSaid : Prop := Claim7.holds Tryd.pinned (.plain (OpenSpec.upto ticketSealsSpec)) ticketSealsUptoCard
end Rows
end Go.Proofs.YtkdpdgpphpngeaaDoor
