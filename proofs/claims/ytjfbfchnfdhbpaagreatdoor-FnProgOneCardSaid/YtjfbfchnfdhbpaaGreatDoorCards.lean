/-
  DERIVED. GIVEN WITH THE SEED: THE CARDS: each row of YtjfbfchnfdhbpaaGreatDoorRows.lean that lists a variable, with what it lists TIED to the program's text (the seventh form; the later family's looks); each row that meets fmt, with fmt's text TOLD by the authors' own Lean function (tested against real Go, not proved from fmt's source: count such statements apart). THE CARD IS WHAT COUNTS. Prove the row's statement (the work); the ties are given (YtjfbfchnfdhbpaaGreatDoorTie.lean); close each card by the builder's one call (the guide's Derived/Test/ToyasCard.lean, 'card_holds'). Laid BY PROGRAM, IN A SANDBOX (cutbox-door.mjs). By AI agents, Wed Nov 11 2026. No macro, syntax, notation, axiom, sorry.
-/
import Derived.Test.YtjfbfchnfdhbpaaGreatDoorRows
import GoSem.ClaimSeven
namespace Go.Proofs.YtjfbfchnfdhbpaaGreatDoor
namespace Rows

/-- THE TIED CARD OF 'laws.FnProgOne'. -/
def fnProgOneCard : Claim7 := { stood := { row := fnProgOneRow, standIns := [], harness := (true, "f539670f1e48b08ae7b9fffcbdfe97bb229537001c8fee8f6bc34b7b2f2958a5"), looks := true }, kinds := [], alts := [], laidByText := true, laidKinds := [.data, .data, .data], laidTests := true, laidLooks := .later }
def FnProgOneCardSaid : Prop := Claim7.holds Tryz.pinned (.plain (OpenSpec.ofChange fnProgOneSpec)) fnProgOneCard

/-- THE SECOND FORM's CARD OF 'laws.FnProgOne'. -/
def fnProgOneUptoCard : Claim7 := { stood := { row := fnProgOneUptoRow, standIns := [], harness := (true, "f539670f1e48b08ae7b9fffcbdfe97bb229537001c8fee8f6bc34b7b2f2958a5"), looks := true }, kinds := [], alts := [], laidByText := true, laidKinds := [.data, .data, .data], laidTests := true, laidLooks := .later }
def FnProgOneUptoCardSaid : Prop := Claim7.holds Tryz.pinned (.plain (OpenSpec.upto fnProgOneSpec)) fnProgOneUptoCard
end Rows
end Go.Proofs.YtjfbfchnfdhbpaaGreatDoor
