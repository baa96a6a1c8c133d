/-
  DERIVED. GIVEN WITH THE SEED: THE CARDS: each row of YtncoifiafklkjaaDoorRows.lean that lists a variable, with what it lists TIED to the program's text (the seventh form; the later family's looks); each row that meets fmt, with fmt's text TOLD by the authors' own Lean function (tested against real Go, not proved from fmt's source: count such statements apart). THE CARD IS WHAT COUNTS. Prove the row's statement (the work); the ties are given (YtncoifiafklkjaaDoorTie.lean); close each card by the builder's one call (the guide's Derived/Test/ToyasCard.lean, 'card_holds'). Laid BY PROGRAM, IN A SANDBOX (cutbox-door.mjs). By AI agents, Wed Nov 11 2026. No macro, syntax, notation, axiom, sorry.
-/
import Derived.Test.YtncoifiafklkjaaDoorRows
import GoSem.ClaimSeven
namespace Go.Proofs.YtncoifiafklkjaaDoor
namespace Rows

/-- THE TIED CARD OF 'entrustlaw02.ShaSums'. -/
def shaSumsCard : Claim7 := { stood := { row := shaSumsRow, standIns := [], harness := (true, "de7479bad4e85e403277db0d8cd99171af61f94a42c6cfc2fccf53d6b4e53da4"), looks := true }, kinds := [], alts := [], laidByText := true, laidKinds := [.data, .data, .data, .data], laidTests := true, laidLooks := .later }
def ShaSumsCardSaid : Prop := Claim7.holds Tryd.pinned (.plain (OpenSpec.ofChange shaSumsSpec)) shaSumsCard

/-- THE TIED CARD OF 'entrustlaw02.ShaBlocks'. -/
def shaBlocksCard : Claim7 := { stood := { row := shaBlocksRow, standIns := [], harness := (true, "de7479bad4e85e403277db0d8cd99171af61f94a42c6cfc2fccf53d6b4e53da4"), looks := true }, kinds := [], alts := [], laidByText := true, laidKinds := [.data, .data, .data], laidTests := true, laidLooks := .later }
def ShaBlocksCardSaid : Prop := Claim7.holds Tryd.pinned (.plain (OpenSpec.ofChange shaBlocksSpec)) shaBlocksCard

/-- THE TIED CARD OF 'entrustlaw02.ShaParts'. -/
def shaPartsCard : Claim7 := { stood := { row := shaPartsRow, standIns := [], harness := (true, "de7479bad4e85e403277db0d8cd99171af61f94a42c6cfc2fccf53d6b4e53da4"), looks := true }, kinds := [], alts := [], laidByText := true, laidKinds := [.data, .data, .data, .data], laidTests := true, laidLooks := .later }
def ShaPartsCardSaid : Prop := Claim7.holds Tryd.pinned (.plain (OpenSpec.ofChange shaPartsSpec)) shaPartsCard

/-- THE TIED CARD OF 'entrustlaw02.ShaRoots'. -/
def shaRootsCard : Claim7 := { stood := { row := shaRootsRow, standIns := [], harness := (true, "de7479bad4e85e403277db0d8cd99171af61f94a42c6cfc2fccf53d6b4e53da4"), looks := true }, kinds := [], alts := [], laidByText := true, laidKinds := [.data, .data, .data, .data], laidTests := true, laidLooks := .later }
def ShaRootsCardSaid : Prop := Claim7.holds Tryd.pinned (.plain (OpenSpec.ofChange shaRootsSpec)) shaRootsCard

/-- THE TIED CARD OF 'entrustlaw03.HmacSames'. -/
def hmacSamesCard : Claim7 := { stood := { row := hmacSamesRow, standIns := [], harness := (true, "de7479bad4e85e403277db0d8cd99171af61f94a42c6cfc2fccf53d6b4e53da4"), looks := true }, kinds := [], alts := [], laidByText := true, laidKinds := [.data, .data], laidTests := true, laidLooks := .later }
def HmacSamesCardSaid : Prop := Claim7.holds Tryd.pinned (.plain (OpenSpec.ofChange hmacSamesSpec)) hmacSamesCard

/-- THE TIED CARD OF 'entrustlaw03.HmacMacs'. -/
def hmacMacsCard : Claim7 := { stood := { row := hmacMacsRow, standIns := [], harness := (true, "de7479bad4e85e403277db0d8cd99171af61f94a42c6cfc2fccf53d6b4e53da4"), looks := true }, kinds := [], alts := [], laidByText := true, laidKinds := [.data, .data, .data, .data], laidTests := true, laidLooks := .later }
def HmacMacsCardSaid : Prop := Claim7.holds Tryd.pinned (.plain (OpenSpec.ofChange hmacMacsSpec)) hmacMacsCard

/-- THE TIED CARD OF 'entrustlaw03.HmacChecks'. -/
def hmacChecksCard : Claim7 := { stood := { row := hmacChecksRow, standIns := [], harness := (true, "de7479bad4e85e403277db0d8cd99171af61f94a42c6cfc2fccf53d6b4e53da4"), looks := true }, kinds := [], alts := [], laidByText := true, laidKinds := [.data, .data, .data, .data], laidTests := true, laidLooks := .later }
def HmacChecksCardSaid : Prop := Claim7.holds Tryd.pinned (.plain (OpenSpec.ofChange hmacChecksSpec)) hmacChecksCard

/-- THE TIED CARD OF 'entrustlaw03.HmacTurns'. -/
def hmacTurnsCard : Claim7 := { stood := { row := hmacTurnsRow, standIns := [], harness := (true, "de7479bad4e85e403277db0d8cd99171af61f94a42c6cfc2fccf53d6b4e53da4"), looks := true }, kinds := [], alts := [], laidByText := true, laidKinds := [.data, .data], laidTests := true, laidLooks := .later }
def HmacTurnsCardSaid : Prop := Claim7.holds Tryd.pinned (.plain (OpenSpec.ofChange hmacTurnsSpec)) hmacTurnsCard

/-- THE TIED CARD OF 'entrustlaw06.KeysLabels'. -/
def keysLabelsCard : Claim7 := { stood := { row := keysLabelsRow, standIns := [], harness := (true, "de7479bad4e85e403277db0d8cd99171af61f94a42c6cfc2fccf53d6b4e53da4"), looks := true }, kinds := [], alts := [], laidByText := true, laidKinds := [.data, .data, .data, .data], laidTests := true, laidLooks := .later }
def KeysLabelsCardSaid : Prop := Claim7.holds Tryd.pinned (.plain (OpenSpec.ofChange keysLabelsSpec)) keysLabelsCard

/-- THE TIED CARD OF 'entrustlaw06.KeysOf'. -/
def keysOfCard : Claim7 := { stood := { row := keysOfRow, standIns := [], harness := (true, "de7479bad4e85e403277db0d8cd99171af61f94a42c6cfc2fccf53d6b4e53da4"), looks := true }, kinds := [], alts := [], laidByText := true, laidKinds := [.data, .data, .data, .data], laidTests := true, laidLooks := .later }
def KeysOfCardSaid : Prop := Claim7.holds Tryd.pinned (.plain (OpenSpec.ofChange keysOfSpec)) keysOfCard

/-- THE TIED CARD OF 'entrustlaw06.KeysApart'. -/
def keysApartCard : Claim7 := { stood := { row := keysApartRow, standIns := [], harness := (true, "de7479bad4e85e403277db0d8cd99171af61f94a42c6cfc2fccf53d6b4e53da4"), looks := true }, kinds := [], alts := [], laidByText := true, laidKinds := [.data, .data, .data, .data], laidTests := true, laidLooks := .later }
def KeysApartCardSaid : Prop := Claim7.holds Tryd.pinned (.plain (OpenSpec.ofChange keysApartSpec)) keysApartCard

/-- THE TIED CARD OF 'entrustlaw07.SealSeals'. -/
def sealSealsCard : Claim7 := { stood := { row := sealSealsRow, standIns := [], harness := (true, "de7479bad4e85e403277db0d8cd99171af61f94a42c6cfc2fccf53d6b4e53da4"), looks := true }, kinds := [], alts := [], laidByText := true, laidKinds := [.data, .data, .data, .data], laidTests := true, laidLooks := .later }
def SealSealsCardSaid : Prop := Claim7.holds Tryd.pinned (.plain (OpenSpec.ofChange sealSealsSpec)) sealSealsCard

/-- THE TIED CARD OF 'entrustlaw07.SealOpens'. -/
def sealOpensCard : Claim7 := { stood := { row := sealOpensRow, standIns := [], harness := (true, "de7479bad4e85e403277db0d8cd99171af61f94a42c6cfc2fccf53d6b4e53da4"), looks := true }, kinds := [], alts := [], laidByText := true, laidKinds := [.data, .data, .data, .data], laidTests := true, laidLooks := .later }
def SealOpensCardSaid : Prop := Claim7.holds Tryd.pinned (.plain (OpenSpec.ofChange sealOpensSpec)) sealOpensCard

/-- THE TIED CARD OF 'entrustlaw07.SealApart'. -/
def sealApartCard : Claim7 := { stood := { row := sealApartRow, standIns := [], harness := (true, "de7479bad4e85e403277db0d8cd99171af61f94a42c6cfc2fccf53d6b4e53da4"), looks := true }, kinds := [], alts := [], laidByText := true, laidKinds := [.data, .data], laidTests := true, laidLooks := .later }
def SealApartCardSaid : Prop := Claim7.holds Tryd.pinned (.plain (OpenSpec.ofChange sealApartSpec)) sealApartCard

/-- THE TIED CARD OF 'entrustlaw07.SealBack'. -/
def sealBackCard : Claim7 := { stood := { row := sealBackRow, standIns := [], harness := (true, "de7479bad4e85e403277db0d8cd99171af61f94a42c6cfc2fccf53d6b4e53da4"), looks := true }, kinds := [], alts := [], laidByText := true, laidKinds := [.data, .data, .data, .data], laidTests := true, laidLooks := .later }
def SealBackCardSaid : Prop := Claim7.holds Tryd.pinned (.plain (OpenSpec.ofChange sealBackSpec)) sealBackCard

/-- THE TIED CARD OF 'entrustlaw08.NodeJoins'. -/
def nodeJoinsCard : Claim7 := { stood := { row := nodeJoinsRow, standIns := [], harness := (true, "de7479bad4e85e403277db0d8cd99171af61f94a42c6cfc2fccf53d6b4e53da4"), looks := true }, kinds := [], alts := [], laidByText := true, laidKinds := [.data, .data, .data, .data], laidTests := true, laidLooks := .later }
def NodeJoinsCardSaid : Prop := Claim7.holds Tryd.pinned (.plain (OpenSpec.ofChange nodeJoinsSpec)) nodeJoinsCard

/-- THE TIED CARD OF 'entrustlaw08.NodeKinds'. -/
def nodeKindsCard : Claim7 := { stood := { row := nodeKindsRow, standIns := [], harness := (true, "de7479bad4e85e403277db0d8cd99171af61f94a42c6cfc2fccf53d6b4e53da4"), looks := true }, kinds := [], alts := [], laidByText := true, laidKinds := [.data, .data, .data, .data], laidTests := true, laidLooks := .later }
def NodeKindsCardSaid : Prop := Claim7.holds Tryd.pinned (.plain (OpenSpec.ofChange nodeKindsSpec)) nodeKindsCard

/-- THE TIED CARD OF 'entrustlaw08.NodeApart'. -/
def nodeApartCard : Claim7 := { stood := { row := nodeApartRow, standIns := [], harness := (true, "de7479bad4e85e403277db0d8cd99171af61f94a42c6cfc2fccf53d6b4e53da4"), looks := true }, kinds := [], alts := [], laidByText := true, laidKinds := [.data, .data], laidTests := true, laidLooks := .later }
def NodeApartCardSaid : Prop := Claim7.holds Tryd.pinned (.plain (OpenSpec.ofChange nodeApartSpec)) nodeApartCard

/-- THE TIED CARD OF 'entrustlaw08.NodeLeaves'. -/
def nodeLeavesCard : Claim7 := { stood := { row := nodeLeavesRow, standIns := [], harness := (true, "de7479bad4e85e403277db0d8cd99171af61f94a42c6cfc2fccf53d6b4e53da4"), looks := true }, kinds := [], alts := [], laidByText := true, laidKinds := [.data, .data, .data, .data], laidTests := true, laidLooks := .later }
def NodeLeavesCardSaid : Prop := Claim7.holds Tryd.pinned (.plain (OpenSpec.ofChange nodeLeavesSpec)) nodeLeavesCard

/-- THE SECOND FORM's CARD OF 'entrustlaw02.ShaSums'. -/
def shaSumsUptoCard : Claim7 := { stood := { row := shaSumsUptoRow, standIns := [], harness := (true, "de7479bad4e85e403277db0d8cd99171af61f94a42c6cfc2fccf53d6b4e53da4"), looks := true }, kinds := [], alts := [], laidByText := true, laidKinds := [.data, .data, .data, .data], laidTests := true, laidLooks := .later }
def ShaSumsUptoCardSaid : Prop := Claim7.holds Tryd.pinned (.plain (OpenSpec.upto shaSumsSpec)) shaSumsUptoCard

/-- THE SECOND FORM's CARD OF 'entrustlaw02.ShaBlocks'. -/
def shaBlocksUptoCard : Claim7 := { stood := { row := shaBlocksUptoRow, standIns := [], harness := (true, "de7479bad4e85e403277db0d8cd99171af61f94a42c6cfc2fccf53d6b4e53da4"), looks := true }, kinds := [], alts := [], laidByText := true, laidKinds := [.data, .data, .data], laidTests := true, laidLooks := .later }
def ShaBlocksUptoCardSaid : Prop := Claim7.holds Tryd.pinned (.plain (OpenSpec.upto shaBlocksSpec)) shaBlocksUptoCard

/-- THE SECOND FORM's CARD OF 'entrustlaw02.ShaParts'. -/
def shaPartsUptoCard : Claim7 := { stood := { row := shaPartsUptoRow, standIns := [], harness := (true, "de7479bad4e85e403277db0d8cd99171af61f94a42c6cfc2fccf53d6b4e53da4"), looks := true }, kinds := [], alts := [], laidByText := true, laidKinds := [.data, .data, .data, .data], laidTests := true, laidLooks := .later }
def ShaPartsUptoCardSaid : Prop := Claim7.holds Tryd.pinned (.plain (OpenSpec.upto shaPartsSpec)) shaPartsUptoCard

/-- THE SECOND FORM's CARD OF 'entrustlaw02.ShaRoots'. -/
def shaRootsUptoCard : Claim7 := { stood := { row := shaRootsUptoRow, standIns := [], harness := (true, "de7479bad4e85e403277db0d8cd99171af61f94a42c6cfc2fccf53d6b4e53da4"), looks := true }, kinds := [], alts := [], laidByText := true, laidKinds := [.data, .data, .data, .data], laidTests := true, laidLooks := .later }
def ShaRootsUptoCardSaid : Prop := Claim7.holds Tryd.pinned (.plain (OpenSpec.upto shaRootsSpec)) shaRootsUptoCard

/-- THE SECOND FORM's CARD OF 'entrustlaw03.HmacSames'. -/
def hmacSamesUptoCard : Claim7 := { stood := { row := hmacSamesUptoRow, standIns := [], harness := (true, "de7479bad4e85e403277db0d8cd99171af61f94a42c6cfc2fccf53d6b4e53da4"), looks := true }, kinds := [], alts := [], laidByText := true, laidKinds := [.data, .data], laidTests := true, laidLooks := .later }
def HmacSamesUptoCardSaid : Prop := Claim7.holds Tryd.pinned (.plain (OpenSpec.upto hmacSamesSpec)) hmacSamesUptoCard

/-- THE SECOND FORM's CARD OF 'entrustlaw03.HmacMacs'. -/
def hmacMacsUptoCard : Claim7 := { stood := { row := hmacMacsUptoRow, standIns := [], harness := (true, "de7479bad4e85e403277db0d8cd99171af61f94a42c6cfc2fccf53d6b4e53da4"), looks := true }, kinds := [], alts := [], laidByText := true, laidKinds := [.data, .data, .data, .data], laidTests := true, laidLooks := .later }
def HmacMacsUptoCardSaid : Prop := Claim7.holds Tryd.pinned (.plain (OpenSpec.upto hmacMacsSpec)) hmacMacsUptoCard

/-- THE SECOND FORM's CARD OF 'entrustlaw03.HmacChecks'. -/
def hmacChecksUptoCard : Claim7 := { stood := { row := hmacChecksUptoRow, standIns := [], harness := (true, "de7479bad4e85e403277db0d8cd99171af61f94a42c6cfc2fccf53d6b4e53da4"), looks := true }, kinds := [], alts := [], laidByText := true, laidKinds := [.data, .data, .data, .data], laidTests := true, laidLooks := .later }
def HmacChecksUptoCardSaid : Prop := Claim7.holds Tryd.pinned (.plain (OpenSpec.upto hmacChecksSpec)) hmacChecksUptoCard

/-- THE SECOND FORM's CARD OF 'entrustlaw03.HmacTurns'. -/
def hmacTurnsUptoCard : Claim7 := { stood := { row := hmacTurnsUptoRow, standIns := [], harness := (true, "de7479bad4e85e403277db0d8cd99171af61f94a42c6cfc2fccf53d6b4e53da4"), looks := true }, kinds := [], alts := [], laidByText := true, laidKinds := [.data, .data], laidTests := true, laidLooks := .later }
def HmacTurnsUptoCardSaid : Prop := Claim7.holds Tryd.pinned (.plain (OpenSpec.upto hmacTurnsSpec)) hmacTurnsUptoCard

/-- THE SECOND FORM's CARD OF 'entrustlaw06.KeysLabels'. -/
def keysLabelsUptoCard : Claim7 := { stood := { row := keysLabelsUptoRow, standIns := [], harness := (true, "de7479bad4e85e403277db0d8cd99171af61f94a42c6cfc2fccf53d6b4e53da4"), looks := true }, kinds := [], alts := [], laidByText := true, laidKinds := [.data, .data, .data, .data], laidTests := true, laidLooks := .later }
def KeysLabelsUptoCardSaid : Prop := Claim7.holds Tryd.pinned (.plain (OpenSpec.upto keysLabelsSpec)) keysLabelsUptoCard

/-- THE SECOND FORM's CARD OF 'entrustlaw06.KeysOf'. -/
def keysOfUptoCard : Claim7 := { stood := { row := keysOfUptoRow, standIns := [], harness := (true, "de7479bad4e85e403277db0d8cd99171af61f94a42c6cfc2fccf53d6b4e53da4"), looks := true }, kinds := [], alts := [], laidByText := true, laidKinds := [.data, .data, .data, .data], laidTests := true, laidLooks := .later }
def KeysOfUptoCardSaid : Prop := Claim7.holds Tryd.pinned (.plain (OpenSpec.upto keysOfSpec)) keysOfUptoCard

/-- THE SECOND FORM's CARD OF 'entrustlaw06.KeysApart'. -/
def keysApartUptoCard : Claim7 := { stood := { row := keysApartUptoRow, standIns := [], harness := (true, "de7479bad4e85e403277db0d8cd99171af61f94a42c6cfc2fccf53d6b4e53da4"), looks := true }, kinds := [], alts := [], laidByText := true, laidKinds := [.data, .data, .data, .data], laidTests := true, laidLooks := .later }
def KeysApartUptoCardSaid : Prop := Claim7.holds Tryd.pinned (.plain (OpenSpec.upto keysApartSpec)) keysApartUptoCard

/-- THE SECOND FORM's CARD OF 'entrustlaw07.SealSeals'. -/
def sealSealsUptoCard : Claim7 := { stood := { row := sealSealsUptoRow, standIns := [], harness := (true, "de7479bad4e85e403277db0d8cd99171af61f94a42c6cfc2fccf53d6b4e53da4"), looks := true }, kinds := [], alts := [], laidByText := true, laidKinds := [.data, .data, .data, .data], laidTests := true, laidLooks := .later }
def SealSealsUptoCardSaid : Prop := Claim7.holds Tryd.pinned (.plain (OpenSpec.upto sealSealsSpec)) sealSealsUptoCard

/-- THE SECOND FORM's CARD OF 'entrustlaw07.SealOpens'. -/
def sealOpensUptoCard : Claim7 := { stood := { row := sealOpensUptoRow, standIns := [], harness := (true, "de7479bad4e85e403277db0d8cd99171af61f94a42c6cfc2fccf53d6b4e53da4"), looks := true }, kinds := [], alts := [], laidByText := true, laidKinds := [.data, .data, .data, .data], laidTests := true, laidLooks := .later }
def SealOpensUptoCardSaid : Prop := Claim7.holds Tryd.pinned (.plain (OpenSpec.upto sealOpensSpec)) sealOpensUptoCard

/-- THE SECOND FORM's CARD OF 'entrustlaw07.SealApart'. -/
def sealApartUptoCard : Claim7 := { stood := { row := sealApartUptoRow, standIns := [], harness := (true, "de7479bad4e85e403277db0d8cd99171af61f94a42c6cfc2fccf53d6b4e53da4"), looks := true }, kinds := [], alts := [], laidByText := true, laidKinds := [.data, .data], laidTests := true, laidLooks := .later }
def SealApartUptoCardSaid : Prop := Claim7.holds Tryd.pinned (.plain (OpenSpec.upto sealApartSpec)) sealApartUptoCard

/-- THE SECOND FORM's CARD OF 'entrustlaw07.SealBack'. -/
def sealBackUptoCard : Claim7 := { stood := { row := sealBackUptoRow, standIns := [], harness := (true, "de7479bad4e85e403277db0d8cd99171af61f94a42c6cfc2fccf53d6b4e53da4"), looks := true }, kinds := [], alts := [], laidByText := true, laidKinds := [.data, .data, .data, .data], laidTests := true, laidLooks := .later }
def SealBackUptoCardSaid : Prop := Claim7.holds Tryd.pinned (.plain (OpenSpec.upto sealBackSpec)) sealBackUptoCard

/-- THE SECOND FORM's CARD OF 'entrustlaw08.NodeJoins'. -/
def nodeJoinsUptoCard : Claim7 := { stood := { row := nodeJoinsUptoRow, standIns := [], harness := (true, "de7479bad4e85e403277db0d8cd99171af61f94a42c6cfc2fccf53d6b4e53da4"), looks := true }, kinds := [], alts := [], laidByText := true, laidKinds := [.data, .data, .data, .data], laidTests := true, laidLooks := .later }
def NodeJoinsUptoCardSaid : Prop := Claim7.holds Tryd.pinned (.plain (OpenSpec.upto nodeJoinsSpec)) nodeJoinsUptoCard

/-- THE SECOND FORM's CARD OF 'entrustlaw08.NodeKinds'. -/
def nodeKindsUptoCard : Claim7 := { stood := { row := nodeKindsUptoRow, standIns := [], harness := (true, "de7479bad4e85e403277db0d8cd99171af61f94a42c6cfc2fccf53d6b4e53da4"), looks := true }, kinds := [], alts := [], laidByText := true, laidKinds := [.data, .data, .data, .data], laidTests := true, laidLooks := .later }
def NodeKindsUptoCardSaid : Prop := Claim7.holds Tryd.pinned (.plain (OpenSpec.upto nodeKindsSpec)) nodeKindsUptoCard

/-- THE SECOND FORM's CARD OF 'entrustlaw08.NodeApart'. -/
def nodeApartUptoCard : Claim7 := { stood := { row := nodeApartUptoRow, standIns := [], harness := (true, "de7479bad4e85e403277db0d8cd99171af61f94a42c6cfc2fccf53d6b4e53da4"), looks := true }, kinds := [], alts := [], laidByText := true, laidKinds := [.data, .data], laidTests := true, laidLooks := .later }
def NodeApartUptoCardSaid : Prop := Claim7.holds Tryd.pinned (.plain (OpenSpec.upto nodeApartSpec)) nodeApartUptoCard

/-- THE SECOND FORM's CARD OF 'entrustlaw08.NodeLeaves'. -/
def nodeLeavesUptoCard : Claim7 := { stood := { row := nodeLeavesUptoRow, standIns := [], harness := (true, "de7479bad4e85e403277db0d8cd99171af61f94a42c6cfc2fccf53d6b4e53da4"), looks := true }, kinds := [], alts := [], laidByText := true, laidKinds := [.data, .data, .data, .data], laidTests := true, laidLooks := .later }
def NodeLeavesUptoCardSaid : Prop := Claim7.holds Tryd.pinned (.plain (OpenSpec.upto nodeLeavesSpec)) nodeLeavesUptoCard
end Rows
end Go.Proofs.YtncoifiafklkjaaDoor
