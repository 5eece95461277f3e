/-
  DERIVED. GIVEN WITH THE SEED: THE CARDS: each row of YtnnhcbeiogaknaaGreatDoorRows.lean that lists a variable, with what it lists TIED to the program's text (the seventh form; the later family's looks); each row that meets fmt, with fmt's text TOLD by the authors' own Lean function (tested against real Go, not proved from fmt's source: count such statements apart). THE CARD IS WHAT COUNTS. Prove the row's statement (the work); the ties are given (YtnnhcbeiogaknaaGreatDoorTie.lean); close each card by the builder's one call (the guide's Derived/Test/ToyasCard.lean, 'card_holds'). Laid BY PROGRAM, IN A SANDBOX (cutbox-door.mjs). By AI agents, Wed Nov 11 2026. No macro, syntax, notation, axiom, sorry.
-/
import Derived.Test.YtnnhcbeiogaknaaGreatDoorRows
import GoSem.ClaimSeven
namespace Go.Proofs.YtnnhcbeiogaknaaGreatDoor
namespace Rows

/-- THE TIED CARD OF 'reckonerlaw17.FactorsLines'. -/
def factorsLinesCard : Claim7 := { stood := { row := factorsLinesRow, standIns := [], harness := (true, "6f21f782bd789d08ef6a152e081c0f98bd70621ade5b0335efcbcaa841a0f654"), looks := true }, kinds := [], alts := [], laidByText := true, laidKinds := [.data, .data, .data, .data, .sentinel, .sentinel, .pinned], laidTests := true, laidLooks := .later }
def FactorsLinesCardSaid : Prop := Claim7.holds Tryz.pinned (.plain (OpenSpec.ofChange factorsLinesSpec)) factorsLinesCard

/-- THE TIED CARD OF 'reckonerlaw17.FactorsMake'. -/
def factorsMakeCard : Claim7 := { stood := { row := factorsMakeRow, standIns := [], harness := (true, "6f21f782bd789d08ef6a152e081c0f98bd70621ade5b0335efcbcaa841a0f654"), looks := true }, kinds := [], alts := [], laidByText := true, laidKinds := [.data, .data, .data, .data, .sentinel, .sentinel, .pinned], laidTests := true, laidLooks := .later }
def FactorsMakeCardSaid : Prop := Claim7.holds Tryz.pinned (.plain (OpenSpec.ofChange factorsMakeSpec)) factorsMakeCard

/-- THE TIED CARD OF 'reckonerlaw19.WorthsField'. -/
def worthsFieldCard : Claim7 := { stood := { row := worthsFieldRow, standIns := [], harness := (true, "6f21f782bd789d08ef6a152e081c0f98bd70621ade5b0335efcbcaa841a0f654"), looks := true }, kinds := [], alts := [], laidByText := true, laidKinds := [.data, .data, .data, .data, .sentinel, .sentinel, .pinned], laidTests := true, laidLooks := .later }
def WorthsFieldCardSaid : Prop := Claim7.holds Tryz.pinned (.plain (OpenSpec.ofChange worthsFieldSpec)) worthsFieldCard

/-- THE TIED CARD OF 'reckonerlaw19.WorthsLists'. -/
def worthsListsCard : Claim7 := { stood := { row := worthsListsRow, standIns := [], harness := (true, "6f21f782bd789d08ef6a152e081c0f98bd70621ade5b0335efcbcaa841a0f654"), looks := true }, kinds := [], alts := [], laidByText := true, laidKinds := [.data, .data, .data, .data, .sentinel, .sentinel, .pinned], laidTests := true, laidLooks := .later }
def WorthsListsCardSaid : Prop := Claim7.holds Tryz.pinned (.plain (OpenSpec.ofChange worthsListsSpec)) worthsListsCard

/-- THE SECOND FORM's CARD OF 'reckonerlaw17.FactorsLines'. -/
def factorsLinesUptoCard : Claim7 := { stood := { row := factorsLinesUptoRow, standIns := [], harness := (true, "6f21f782bd789d08ef6a152e081c0f98bd70621ade5b0335efcbcaa841a0f654"), looks := true }, kinds := [], alts := [], laidByText := true, laidKinds := [.data, .data, .data, .data, .sentinel, .sentinel, .pinned], laidTests := true, laidLooks := .later }
def FactorsLinesUptoCardSaid : Prop := Claim7.holds Tryz.pinned (.plain (OpenSpec.upto factorsLinesSpec)) factorsLinesUptoCard

/-- THE SECOND FORM's CARD OF 'reckonerlaw17.FactorsMake'. -/
def factorsMakeUptoCard : Claim7 := { stood := { row := factorsMakeUptoRow, standIns := [], harness := (true, "6f21f782bd789d08ef6a152e081c0f98bd70621ade5b0335efcbcaa841a0f654"), looks := true }, kinds := [], alts := [], laidByText := true, laidKinds := [.data, .data, .data, .data, .sentinel, .sentinel, .pinned], laidTests := true, laidLooks := .later }
def FactorsMakeUptoCardSaid : Prop := Claim7.holds Tryz.pinned (.plain (OpenSpec.upto factorsMakeSpec)) factorsMakeUptoCard

/-- THE SECOND FORM's CARD OF 'reckonerlaw19.WorthsField'. -/
def worthsFieldUptoCard : Claim7 := { stood := { row := worthsFieldUptoRow, standIns := [], harness := (true, "6f21f782bd789d08ef6a152e081c0f98bd70621ade5b0335efcbcaa841a0f654"), looks := true }, kinds := [], alts := [], laidByText := true, laidKinds := [.data, .data, .data, .data, .sentinel, .sentinel, .pinned], laidTests := true, laidLooks := .later }
def WorthsFieldUptoCardSaid : Prop := Claim7.holds Tryz.pinned (.plain (OpenSpec.upto worthsFieldSpec)) worthsFieldUptoCard

/-- THE SECOND FORM's CARD OF 'reckonerlaw19.WorthsLists'. -/
def worthsListsUptoCard : Claim7 := { stood := { row := worthsListsUptoRow, standIns := [], harness := (true, "6f21f782bd789d08ef6a152e081c0f98bd70621ade5b0335efcbcaa841a0f654"), looks := true }, kinds := [], alts := [], laidByText := true, laidKinds := [.data, .data, .data, .data, .sentinel, .sentinel, .pinned], laidTests := true, laidLooks := .later }
def WorthsListsUptoCardSaid : Prop := Claim7.holds Tryz.pinned (.plain (OpenSpec.upto worthsListsSpec)) worthsListsUptoCard
end Rows
end Go.Proofs.YtnnhcbeiogaknaaGreatDoor
