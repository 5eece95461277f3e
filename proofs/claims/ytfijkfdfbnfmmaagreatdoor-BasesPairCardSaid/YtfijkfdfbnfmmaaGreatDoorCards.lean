/-
  DERIVED. GIVEN WITH THE SEED: THE CARDS: each row of YtfijkfdfbnfmmaaGreatDoorRows.lean that lists a variable, with what it lists TIED to the program's text (the seventh form; the later family's looks); each row that meets fmt, with fmt's text TOLD by the authors' own Lean function (tested against real Go, not proved from fmt's source: count such statements apart). THE CARD IS WHAT COUNTS. Prove the row's statement (the work); the ties are given (YtfijkfdfbnfmmaaGreatDoorTie.lean); close each card by the builder's one call (the guide's Derived/Test/ToyasCard.lean, 'card_holds'). Laid BY PROGRAM, IN A SANDBOX (cutbox-door.mjs). By AI agents, Wed Nov 11 2026. No macro, syntax, notation, axiom, sorry.
-/
import Derived.Test.YtfijkfdfbnfmmaaGreatDoorRows
import GoSem.ClaimSeven
namespace Go.Proofs.YtfijkfdfbnfmmaaGreatDoor
namespace Rows

/-- THE TIED CARD OF 'reckonerlaw18.BasesPair'. -/
def basesPairCard : Claim7 := { stood := { row := basesPairRow, standIns := [], harness := (true, "42167b1926b585698d60e5316aea40544fbde6889d8b0f353da1bcb36339a4a1"), looks := true }, kinds := [], alts := [], laidByText := true, laidKinds := [.data, .data, .data, .data, .sentinel, .sentinel, .pinned], laidTests := true, laidLooks := .later }
def BasesPairCardSaid : Prop := Claim7.holds Tryz.pinned (.plain (OpenSpec.ofChange basesPairSpec)) basesPairCard

/-- THE SECOND FORM's CARD OF 'reckonerlaw18.BasesPair'. -/
def basesPairUptoCard : Claim7 := { stood := { row := basesPairUptoRow, standIns := [], harness := (true, "42167b1926b585698d60e5316aea40544fbde6889d8b0f353da1bcb36339a4a1"), looks := true }, kinds := [], alts := [], laidByText := true, laidKinds := [.data, .data, .data, .data, .sentinel, .sentinel, .pinned], laidTests := true, laidLooks := .later }
def BasesPairUptoCardSaid : Prop := Claim7.holds Tryz.pinned (.plain (OpenSpec.upto basesPairSpec)) basesPairUptoCard
end Rows
end Go.Proofs.YtfijkfdfbnfmmaaGreatDoor
