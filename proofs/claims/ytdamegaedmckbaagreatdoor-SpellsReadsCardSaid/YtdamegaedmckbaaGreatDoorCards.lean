/-
  DERIVED. GIVEN WITH THE SEED: THE CARDS: each row of YtdamegaedmckbaaGreatDoorRows.lean that lists a variable, with what it lists TIED to the program's text (the seventh form; the later family's looks); each row that meets fmt, with fmt's text TOLD by the authors' own Lean function (tested against real Go, not proved from fmt's source: count such statements apart). THE CARD IS WHAT COUNTS. Prove the row's statement (the work); the ties are given (YtdamegaedmckbaaGreatDoorTie.lean); close each card by the builder's one call (the guide's Derived/Test/ToyasCard.lean, 'card_holds'). Laid BY PROGRAM, IN A SANDBOX (cutbox-door.mjs). By AI agents, Wed Nov 11 2026. No macro, syntax, notation, axiom, sorry.
-/
import Derived.Test.YtdamegaedmckbaaGreatDoorRows
import GoSem.ClaimSeven
namespace Go.Proofs.YtdamegaedmckbaaGreatDoor
namespace Rows

/-- THE TIED CARD OF 'reckonerlaw06.SpellsTexts'. -/
def spellsTextsCard : Claim7 := { stood := { row := spellsTextsRow, standIns := [], harness := (true, "ea9ca3ca4ac48dd61938e33307edc09c4d6f37c38ade3ad8ce5f4796c7db0465"), looks := true }, kinds := [], alts := [], laidByText := true, laidKinds := [.data, .data, .data], laidTests := true, laidLooks := .later }
def SpellsTextsCardSaid : Prop := Claim7.holds Tryz.pinned (.plain (OpenSpec.ofChange spellsTextsSpec)) spellsTextsCard

/-- THE TIED CARD OF 'reckonerlaw06.SpellsReads'. -/
def spellsReadsCard : Claim7 := { stood := { row := spellsReadsRow, standIns := [], harness := (true, "ea9ca3ca4ac48dd61938e33307edc09c4d6f37c38ade3ad8ce5f4796c7db0465"), looks := true }, kinds := [], alts := [], laidByText := true, laidKinds := [.data, .data, .data, .data, .sentinel, .sentinel, .pinned], laidTests := true, laidLooks := .later }
def SpellsReadsCardSaid : Prop := Claim7.holds Tryz.pinned (.plain (OpenSpec.ofChange spellsReadsSpec)) spellsReadsCard

/-- THE TIED CARD OF 'reckonerlaw06.SpellsLong'. -/
def spellsLongCard : Claim7 := { stood := { row := spellsLongRow, standIns := [], harness := (true, "ea9ca3ca4ac48dd61938e33307edc09c4d6f37c38ade3ad8ce5f4796c7db0465"), looks := true }, kinds := [], alts := [], laidByText := true, laidKinds := [.data, .data, .data, .data, .sentinel, .sentinel, .pinned], laidTests := true, laidLooks := .later }
def SpellsLongCardSaid : Prop := Claim7.holds Tryz.pinned (.plain (OpenSpec.ofChange spellsLongSpec)) spellsLongCard

/-- THE TIED CARD OF 'reckonerlaw06.SpellsBack'. -/
def spellsBackCard : Claim7 := { stood := { row := spellsBackRow, standIns := [], harness := (true, "ea9ca3ca4ac48dd61938e33307edc09c4d6f37c38ade3ad8ce5f4796c7db0465"), looks := true }, kinds := [], alts := [], laidByText := true, laidKinds := [.data, .data, .data, .data, .sentinel, .sentinel, .pinned], laidTests := true, laidLooks := .later }
def SpellsBackCardSaid : Prop := Claim7.holds Tryz.pinned (.plain (OpenSpec.ofChange spellsBackSpec)) spellsBackCard

/-- THE TIED CARD OF 'reckonerlaw06.SpellsBlanks'. -/
def spellsBlanksCard : Claim7 := { stood := { row := spellsBlanksRow, standIns := [], harness := (true, "ea9ca3ca4ac48dd61938e33307edc09c4d6f37c38ade3ad8ce5f4796c7db0465"), looks := true }, kinds := [], alts := [], laidByText := true, laidKinds := [.data, .data, .data, .data, .sentinel, .sentinel, .pinned], laidTests := true, laidLooks := .later }
def SpellsBlanksCardSaid : Prop := Claim7.holds Tryz.pinned (.plain (OpenSpec.ofChange spellsBlanksSpec)) spellsBlanksCard

/-- THE TIED CARD OF 'reckonerlaw06.SpellsLimits'. -/
def spellsLimitsCard : Claim7 := { stood := { row := spellsLimitsRow, standIns := [], harness := (true, "ea9ca3ca4ac48dd61938e33307edc09c4d6f37c38ade3ad8ce5f4796c7db0465"), looks := true }, kinds := [], alts := [], laidByText := true, laidKinds := [.data, .data, .data, .data, .sentinel, .sentinel, .pinned], laidTests := true, laidLooks := .later }
def SpellsLimitsCardSaid : Prop := Claim7.holds Tryz.pinned (.plain (OpenSpec.ofChange spellsLimitsSpec)) spellsLimitsCard

/-- THE TIED CARD OF 'reckonerlaw06.SpellsOrder'. -/
def spellsOrderCard : Claim7 := { stood := { row := spellsOrderRow, standIns := [], harness := (true, "ea9ca3ca4ac48dd61938e33307edc09c4d6f37c38ade3ad8ce5f4796c7db0465"), looks := true }, kinds := [], alts := [], laidByText := true, laidKinds := [.data, .data, .data, .data, .sentinel, .sentinel, .pinned], laidTests := true, laidLooks := .later }
def SpellsOrderCardSaid : Prop := Claim7.holds Tryz.pinned (.plain (OpenSpec.ofChange spellsOrderSpec)) spellsOrderCard

/-- THE TIED CARD OF 'reckonerlaw06.SpellsSums'. -/
def spellsSumsCard : Claim7 := { stood := { row := spellsSumsRow, standIns := [], harness := (true, "ea9ca3ca4ac48dd61938e33307edc09c4d6f37c38ade3ad8ce5f4796c7db0465"), looks := true }, kinds := [], alts := [], laidByText := true, laidKinds := [.data, .data, .data, .data, .sentinel, .sentinel, .pinned], laidTests := true, laidLooks := .later }
def SpellsSumsCardSaid : Prop := Claim7.holds Tryz.pinned (.plain (OpenSpec.ofChange spellsSumsSpec)) spellsSumsCard

/-- THE TIED CARD OF 'reckonerlaw06.SpellsTimes'. -/
def spellsTimesCard : Claim7 := { stood := { row := spellsTimesRow, standIns := [], harness := (true, "ea9ca3ca4ac48dd61938e33307edc09c4d6f37c38ade3ad8ce5f4796c7db0465"), looks := true }, kinds := [], alts := [], laidByText := true, laidKinds := [.data, .data, .data, .data, .sentinel, .sentinel, .pinned], laidTests := true, laidLooks := .later }
def SpellsTimesCardSaid : Prop := Claim7.holds Tryz.pinned (.plain (OpenSpec.ofChange spellsTimesSpec)) spellsTimesCard

/-- THE SECOND FORM's CARD OF 'reckonerlaw06.SpellsTexts'. -/
def spellsTextsUptoCard : Claim7 := { stood := { row := spellsTextsUptoRow, standIns := [], harness := (true, "ea9ca3ca4ac48dd61938e33307edc09c4d6f37c38ade3ad8ce5f4796c7db0465"), looks := true }, kinds := [], alts := [], laidByText := true, laidKinds := [.data, .data, .data], laidTests := true, laidLooks := .later }
def SpellsTextsUptoCardSaid : Prop := Claim7.holds Tryz.pinned (.plain (OpenSpec.upto spellsTextsSpec)) spellsTextsUptoCard

/-- THE SECOND FORM's CARD OF 'reckonerlaw06.SpellsReads'. -/
def spellsReadsUptoCard : Claim7 := { stood := { row := spellsReadsUptoRow, standIns := [], harness := (true, "ea9ca3ca4ac48dd61938e33307edc09c4d6f37c38ade3ad8ce5f4796c7db0465"), looks := true }, kinds := [], alts := [], laidByText := true, laidKinds := [.data, .data, .data, .data, .sentinel, .sentinel, .pinned], laidTests := true, laidLooks := .later }
def SpellsReadsUptoCardSaid : Prop := Claim7.holds Tryz.pinned (.plain (OpenSpec.upto spellsReadsSpec)) spellsReadsUptoCard

/-- THE SECOND FORM's CARD OF 'reckonerlaw06.SpellsLong'. -/
def spellsLongUptoCard : Claim7 := { stood := { row := spellsLongUptoRow, standIns := [], harness := (true, "ea9ca3ca4ac48dd61938e33307edc09c4d6f37c38ade3ad8ce5f4796c7db0465"), looks := true }, kinds := [], alts := [], laidByText := true, laidKinds := [.data, .data, .data, .data, .sentinel, .sentinel, .pinned], laidTests := true, laidLooks := .later }
def SpellsLongUptoCardSaid : Prop := Claim7.holds Tryz.pinned (.plain (OpenSpec.upto spellsLongSpec)) spellsLongUptoCard

/-- THE SECOND FORM's CARD OF 'reckonerlaw06.SpellsBack'. -/
def spellsBackUptoCard : Claim7 := { stood := { row := spellsBackUptoRow, standIns := [], harness := (true, "ea9ca3ca4ac48dd61938e33307edc09c4d6f37c38ade3ad8ce5f4796c7db0465"), looks := true }, kinds := [], alts := [], laidByText := true, laidKinds := [.data, .data, .data, .data, .sentinel, .sentinel, .pinned], laidTests := true, laidLooks := .later }
def SpellsBackUptoCardSaid : Prop := Claim7.holds Tryz.pinned (.plain (OpenSpec.upto spellsBackSpec)) spellsBackUptoCard

/-- THE SECOND FORM's CARD OF 'reckonerlaw06.SpellsBlanks'. -/
def spellsBlanksUptoCard : Claim7 := { stood := { row := spellsBlanksUptoRow, standIns := [], harness := (true, "ea9ca3ca4ac48dd61938e33307edc09c4d6f37c38ade3ad8ce5f4796c7db0465"), looks := true }, kinds := [], alts := [], laidByText := true, laidKinds := [.data, .data, .data, .data, .sentinel, .sentinel, .pinned], laidTests := true, laidLooks := .later }
def SpellsBlanksUptoCardSaid : Prop := Claim7.holds Tryz.pinned (.plain (OpenSpec.upto spellsBlanksSpec)) spellsBlanksUptoCard

/-- THE SECOND FORM's CARD OF 'reckonerlaw06.SpellsLimits'. -/
def spellsLimitsUptoCard : Claim7 := { stood := { row := spellsLimitsUptoRow, standIns := [], harness := (true, "ea9ca3ca4ac48dd61938e33307edc09c4d6f37c38ade3ad8ce5f4796c7db0465"), looks := true }, kinds := [], alts := [], laidByText := true, laidKinds := [.data, .data, .data, .data, .sentinel, .sentinel, .pinned], laidTests := true, laidLooks := .later }
def SpellsLimitsUptoCardSaid : Prop := Claim7.holds Tryz.pinned (.plain (OpenSpec.upto spellsLimitsSpec)) spellsLimitsUptoCard

/-- THE SECOND FORM's CARD OF 'reckonerlaw06.SpellsOrder'. -/
def spellsOrderUptoCard : Claim7 := { stood := { row := spellsOrderUptoRow, standIns := [], harness := (true, "ea9ca3ca4ac48dd61938e33307edc09c4d6f37c38ade3ad8ce5f4796c7db0465"), looks := true }, kinds := [], alts := [], laidByText := true, laidKinds := [.data, .data, .data, .data, .sentinel, .sentinel, .pinned], laidTests := true, laidLooks := .later }
def SpellsOrderUptoCardSaid : Prop := Claim7.holds Tryz.pinned (.plain (OpenSpec.upto spellsOrderSpec)) spellsOrderUptoCard

/-- THE SECOND FORM's CARD OF 'reckonerlaw06.SpellsSums'. -/
def spellsSumsUptoCard : Claim7 := { stood := { row := spellsSumsUptoRow, standIns := [], harness := (true, "ea9ca3ca4ac48dd61938e33307edc09c4d6f37c38ade3ad8ce5f4796c7db0465"), looks := true }, kinds := [], alts := [], laidByText := true, laidKinds := [.data, .data, .data, .data, .sentinel, .sentinel, .pinned], laidTests := true, laidLooks := .later }
def SpellsSumsUptoCardSaid : Prop := Claim7.holds Tryz.pinned (.plain (OpenSpec.upto spellsSumsSpec)) spellsSumsUptoCard

/-- THE SECOND FORM's CARD OF 'reckonerlaw06.SpellsTimes'. -/
def spellsTimesUptoCard : Claim7 := { stood := { row := spellsTimesUptoRow, standIns := [], harness := (true, "ea9ca3ca4ac48dd61938e33307edc09c4d6f37c38ade3ad8ce5f4796c7db0465"), looks := true }, kinds := [], alts := [], laidByText := true, laidKinds := [.data, .data, .data, .data, .sentinel, .sentinel, .pinned], laidTests := true, laidLooks := .later }
def SpellsTimesUptoCardSaid : Prop := Claim7.holds Tryz.pinned (.plain (OpenSpec.upto spellsTimesSpec)) spellsTimesUptoCard
end Rows
end Go.Proofs.YtdamegaedmckbaaGreatDoor
