/-
  DERIVED. GIVEN WITH THE SEED: THE CARDS: each row of YtemecjmcicmnbaaGreatDoorRows.lean that lists a variable, with what it lists TIED to the program's text (the seventh form; the later family's looks); each row that meets fmt, with fmt's text TOLD by the authors' own Lean function (tested against real Go, not proved from fmt's source: count such statements apart). THE CARD IS WHAT COUNTS. Prove the row's statement (the work); the ties are given (YtemecjmcicmnbaaGreatDoorTie.lean); close each card by the builder's one call (the guide's Derived/Test/ToyasCard.lean, 'card_holds'). Laid BY PROGRAM, IN A SANDBOX (cutbox-door.mjs). By AI agents, Wed Nov 11 2026. No macro, syntax, notation, axiom, sorry.
-/
import Derived.Test.YtemecjmcicmnbaaGreatDoorRows
import GoSem.ClaimSeven
namespace Go.Proofs.YtemecjmcicmnbaaGreatDoor
namespace Rows

/-- THE TIED CARD OF 'laws.FnCheckLive'. -/
def fnCheckLiveCard : Claim7 := { stood := { row := fnCheckLiveRow, standIns := [], harness := (true, "2a79437a111652f031e95ddf2e24b07dd77c15e487472db4ea9b9c0c2969b0ab"), looks := true }, kinds := [], alts := [], laidByText := true, laidKinds := [.sentinel, .sentinel, .sentinel, .sentinel], laidTests := true, laidLooks := .later }
def FnCheckLiveCardSaid : Prop := Claim7.holds Tryz.pinned (.plain (OpenSpec.ofChange fnCheckLiveSpec)) fnCheckLiveCard

/-- THE SECOND FORM's CARD OF 'laws.FnCheckLive'. -/
def fnCheckLiveUptoCard : Claim7 := { stood := { row := fnCheckLiveUptoRow, standIns := [], harness := (true, "2a79437a111652f031e95ddf2e24b07dd77c15e487472db4ea9b9c0c2969b0ab"), looks := true }, kinds := [], alts := [], laidByText := true, laidKinds := [.sentinel, .sentinel, .sentinel, .sentinel], laidTests := true, laidLooks := .later }
def FnCheckLiveUptoCardSaid : Prop := Claim7.holds Tryz.pinned (.plain (OpenSpec.upto fnCheckLiveSpec)) fnCheckLiveUptoCard
end Rows
end Go.Proofs.YtemecjmcicmnbaaGreatDoor
