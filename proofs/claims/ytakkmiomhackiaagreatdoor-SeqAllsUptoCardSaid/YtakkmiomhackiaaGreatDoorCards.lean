/-
  DERIVED. GIVEN WITH THE SEED: THE CARDS: each row of YtakkmiomhackiaaGreatDoorRows.lean that lists a variable, with what it lists TIED to the program's text (the seventh form; the later family's looks); each row that meets fmt, with fmt's text TOLD by the authors' own Lean function (tested against real Go, not proved from fmt's source: count such statements apart). THE CARD IS WHAT COUNTS. Prove the row's statement (the work); the ties are given (YtakkmiomhackiaaGreatDoorTie.lean); close each card by the builder's one call (the guide's Derived/Test/ToyasCard.lean, 'card_holds'). Laid BY PROGRAM, IN A SANDBOX (cutbox-door.mjs). By AI agents, Wed Nov 11 2026. No macro, syntax, notation, axiom, sorry.
-/
import Derived.Test.YtakkmiomhackiaaGreatDoorRows
import GoSem.ClaimSeven
namespace Go.Proofs.YtakkmiomhackiaaGreatDoor
namespace Rows

/-- THE TIED CARD OF 'affidavitlaw12.ParseTold'. -/
def parseToldCard : Claim7 := { stood := { row := parseToldRow, standIns := [], harness := (true, "205594918156a680297512d5bdf27d60b26aed442d3eb1640a19b66a65cf0afd"), looks := true }, kinds := [], alts := [], laidByText := true, laidKinds := [.data, .pinned], laidTests := true, laidLooks := .later }
def ParseToldCardSaid : Prop := Claim7.holds Tryz.pinned (.plain (OpenSpec.ofChange parseToldSpec)) parseToldCard

/-- THE TIED CARD OF 'affidavitlaw12.ParseNames'. -/
def parseNamesCard : Claim7 := { stood := { row := parseNamesRow, standIns := [], harness := (true, "205594918156a680297512d5bdf27d60b26aed442d3eb1640a19b66a65cf0afd"), looks := true }, kinds := [], alts := [], laidByText := true, laidKinds := [.data, .pinned], laidTests := true, laidLooks := .later }
def ParseNamesCardSaid : Prop := Claim7.holds Tryz.pinned (.plain (OpenSpec.ofChange parseNamesSpec)) parseNamesCard

/-- THE TIED CARD OF 'affidavitlaw12.ParseBlanks'. -/
def parseBlanksCard : Claim7 := { stood := { row := parseBlanksRow, standIns := [], harness := (true, "205594918156a680297512d5bdf27d60b26aed442d3eb1640a19b66a65cf0afd"), looks := true }, kinds := [], alts := [], laidByText := true, laidKinds := [.data, .pinned], laidTests := true, laidLooks := .later }
def ParseBlanksCardSaid : Prop := Claim7.holds Tryz.pinned (.plain (OpenSpec.ofChange parseBlanksSpec)) parseBlanksCard

/-- THE TIED CARD OF 'affidavitlaw26.SeqLong'. -/
def seqLongCard : Claim7 := { stood := { row := seqLongRow, standIns := [], harness := (true, "205594918156a680297512d5bdf27d60b26aed442d3eb1640a19b66a65cf0afd"), looks := true }, kinds := [], alts := [], laidByText := true, laidKinds := [.data, .pinned], laidTests := true, laidLooks := .later }
def SeqLongCardSaid : Prop := Claim7.holds Tryz.pinned (.plain (OpenSpec.ofChange seqLongSpec)) seqLongCard

/-- THE TIED CARD OF 'affidavitlaw26.SeqAlls'. -/
def seqAllsCard : Claim7 := { stood := { row := seqAllsRow, standIns := [], harness := (true, "205594918156a680297512d5bdf27d60b26aed442d3eb1640a19b66a65cf0afd"), looks := true }, kinds := [], alts := [], laidByText := true, laidKinds := [.data, .pinned], laidTests := true, laidLooks := .later }
def SeqAllsCardSaid : Prop := Claim7.holds Tryz.pinned (.plain (OpenSpec.ofChange seqAllsSpec)) seqAllsCard

/-- THE TIED CARD OF 'affidavitlaw26.SeqPieces'. -/
def seqPiecesCard : Claim7 := { stood := { row := seqPiecesRow, standIns := [], harness := (true, "205594918156a680297512d5bdf27d60b26aed442d3eb1640a19b66a65cf0afd"), looks := true }, kinds := [], alts := [], laidByText := true, laidKinds := [.data, .pinned], laidTests := true, laidLooks := .later }
def SeqPiecesCardSaid : Prop := Claim7.holds Tryz.pinned (.plain (OpenSpec.ofChange seqPiecesSpec)) seqPiecesCard

/-- THE TIED CARD OF 'affidavitlaw26.SeqAlone'. -/
def seqAloneCard : Claim7 := { stood := { row := seqAloneRow, standIns := [], harness := (true, "205594918156a680297512d5bdf27d60b26aed442d3eb1640a19b66a65cf0afd"), looks := true }, kinds := [], alts := [], laidByText := true, laidKinds := [.data, .pinned], laidTests := true, laidLooks := .later }
def SeqAloneCardSaid : Prop := Claim7.holds Tryz.pinned (.plain (OpenSpec.ofChange seqAloneSpec)) seqAloneCard

/-- THE SECOND FORM's CARD OF 'affidavitlaw12.ParseTold'. -/
def parseToldUptoCard : Claim7 := { stood := { row := parseToldUptoRow, standIns := [], harness := (true, "205594918156a680297512d5bdf27d60b26aed442d3eb1640a19b66a65cf0afd"), looks := true }, kinds := [], alts := [], laidByText := true, laidKinds := [.data, .pinned], laidTests := true, laidLooks := .later }
def ParseToldUptoCardSaid : Prop := Claim7.holds Tryz.pinned (.plain (OpenSpec.upto parseToldSpec)) parseToldUptoCard

/-- THE SECOND FORM's CARD OF 'affidavitlaw12.ParseNames'. -/
def parseNamesUptoCard : Claim7 := { stood := { row := parseNamesUptoRow, standIns := [], harness := (true, "205594918156a680297512d5bdf27d60b26aed442d3eb1640a19b66a65cf0afd"), looks := true }, kinds := [], alts := [], laidByText := true, laidKinds := [.data, .pinned], laidTests := true, laidLooks := .later }
def ParseNamesUptoCardSaid : Prop := Claim7.holds Tryz.pinned (.plain (OpenSpec.upto parseNamesSpec)) parseNamesUptoCard

/-- THE SECOND FORM's CARD OF 'affidavitlaw12.ParseBlanks'. -/
def parseBlanksUptoCard : Claim7 := { stood := { row := parseBlanksUptoRow, standIns := [], harness := (true, "205594918156a680297512d5bdf27d60b26aed442d3eb1640a19b66a65cf0afd"), looks := true }, kinds := [], alts := [], laidByText := true, laidKinds := [.data, .pinned], laidTests := true, laidLooks := .later }
def ParseBlanksUptoCardSaid : Prop := Claim7.holds Tryz.pinned (.plain (OpenSpec.upto parseBlanksSpec)) parseBlanksUptoCard

/-- THE SECOND FORM's CARD OF 'affidavitlaw26.SeqLong'. -/
def seqLongUptoCard : Claim7 := { stood := { row := seqLongUptoRow, standIns := [], harness := (true, "205594918156a680297512d5bdf27d60b26aed442d3eb1640a19b66a65cf0afd"), looks := true }, kinds := [], alts := [], laidByText := true, laidKinds := [.data, .pinned], laidTests := true, laidLooks := .later }
def SeqLongUptoCardSaid : Prop := Claim7.holds Tryz.pinned (.plain (OpenSpec.upto seqLongSpec)) seqLongUptoCard

/-- THE SECOND FORM's CARD OF 'affidavitlaw26.SeqAlls'. -/
def seqAllsUptoCard : Claim7 := { stood := { row := seqAllsUptoRow, standIns := [], harness := (true, "205594918156a680297512d5bdf27d60b26aed442d3eb1640a19b66a65cf0afd"), looks := true }, kinds := [], alts := [], laidByText := true, laidKinds := [.data, .pinned], laidTests := true, laidLooks := .later }
def SeqAllsUptoCardSaid : Prop := Claim7.holds Tryz.pinned (.plain (OpenSpec.upto seqAllsSpec)) seqAllsUptoCard

/-- THE SECOND FORM's CARD OF 'affidavitlaw26.SeqPieces'. -/
def seqPiecesUptoCard : Claim7 := { stood := { row := seqPiecesUptoRow, standIns := [], harness := (true, "205594918156a680297512d5bdf27d60b26aed442d3eb1640a19b66a65cf0afd"), looks := true }, kinds := [], alts := [], laidByText := true, laidKinds := [.data, .pinned], laidTests := true, laidLooks := .later }
def SeqPiecesUptoCardSaid : Prop := Claim7.holds Tryz.pinned (.plain (OpenSpec.upto seqPiecesSpec)) seqPiecesUptoCard

/-- THE SECOND FORM's CARD OF 'affidavitlaw26.SeqAlone'. -/
def seqAloneUptoCard : Claim7 := { stood := { row := seqAloneUptoRow, standIns := [], harness := (true, "205594918156a680297512d5bdf27d60b26aed442d3eb1640a19b66a65cf0afd"), looks := true }, kinds := [], alts := [], laidByText := true, laidKinds := [.data, .pinned], laidTests := true, laidLooks := .later }
def SeqAloneUptoCardSaid : Prop := Claim7.holds Tryz.pinned (.plain (OpenSpec.upto seqAloneSpec)) seqAloneUptoCard
end Rows
end Go.Proofs.YtakkmiomhackiaaGreatDoor
