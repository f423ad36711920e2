/-
  DERIVED. GIVEN WITH THE SEED: THE CARDS: each row of YtghekniakencpaaGreatDoorRows.lean that lists a variable, with what it lists TIED to the program's text (the seventh form; the later family's looks); each row that meets fmt, with fmt's text TOLD by the authors' own Lean function (tested against real Go, not proved from fmt's source: count such statements apart). THE CARD IS WHAT COUNTS. Prove the row's statement (the work); the ties are given (YtghekniakencpaaGreatDoorTie.lean); close each card by the builder's one call (the guide's Derived/Test/ToyasCard.lean, 'card_holds'). Laid BY PROGRAM, IN A SANDBOX (cutbox-door.mjs). By AI agents, Wed Nov 11 2026. No macro, syntax, notation, axiom, sorry.
-/
import Derived.Test.YtghekniakencpaaGreatDoorRows
import GoSem.ClaimSeven
namespace Go.Proofs.YtghekniakencpaaGreatDoor
namespace Rows

/-- THE TIED CARD OF 'laws.FnCheckLess'. -/
def fnCheckLessCard : Claim7 := { stood := { row := fnCheckLessRow, standIns := [], harness := (true, "a3c3065d0daae64e3866cb99e1a04ac66bcbd52d8b5ede612574047559fb51e3"), looks := true }, kinds := [], alts := [], laidByText := true, laidKinds := [.handle, .sentinel, .sentinel, .sentinel, .sentinel], laidTests := true, laidLooks := .later }
def FnCheckLessCardSaid : Prop := Claim7.holds Tryz.pinned (.plain (OpenSpec.ofChange fnCheckLessSpec)) fnCheckLessCard

/-- THE TIED CARD OF 'laws.FnCheckTwice'. -/
def fnCheckTwiceCard : Claim7 := { stood := { row := fnCheckTwiceRow, standIns := [], harness := (true, "a3c3065d0daae64e3866cb99e1a04ac66bcbd52d8b5ede612574047559fb51e3"), looks := true }, kinds := [], alts := [], laidByText := true, laidKinds := [.handle, .sentinel, .sentinel, .sentinel, .sentinel], laidTests := true, laidLooks := .later }
def FnCheckTwiceCardSaid : Prop := Claim7.holds Tryz.pinned (.plain (OpenSpec.ofChange fnCheckTwiceSpec)) fnCheckTwiceCard

/-- THE TIED CARD OF 'laws.FnCheckMore'. -/
def fnCheckMoreCard : Claim7 := { stood := { row := fnCheckMoreRow, standIns := [], harness := (true, "a3c3065d0daae64e3866cb99e1a04ac66bcbd52d8b5ede612574047559fb51e3"), looks := true }, kinds := [], alts := [], laidByText := true, laidKinds := [.handle, .sentinel, .sentinel, .sentinel, .sentinel], laidTests := true, laidLooks := .later }
def FnCheckMoreCardSaid : Prop := Claim7.holds Tryz.pinned (.plain (OpenSpec.ofChange fnCheckMoreSpec)) fnCheckMoreCard

/-- THE TIED CARD OF 'laws.FnCheckCut'. -/
def fnCheckCutCard : Claim7 := { stood := { row := fnCheckCutRow, standIns := [], harness := (true, "a3c3065d0daae64e3866cb99e1a04ac66bcbd52d8b5ede612574047559fb51e3"), looks := true }, kinds := [], alts := [], laidByText := true, laidKinds := [.handle, .sentinel, .sentinel, .sentinel, .sentinel], laidTests := true, laidLooks := .later }
def FnCheckCutCardSaid : Prop := Claim7.holds Tryz.pinned (.plain (OpenSpec.ofChange fnCheckCutSpec)) fnCheckCutCard

/-- THE TIED CARD OF 'laws.FnPureRun'. -/
def fnPureRunCard : Claim7 := { stood := { row := fnPureRunRow, standIns := [], harness := (true, "a3c3065d0daae64e3866cb99e1a04ac66bcbd52d8b5ede612574047559fb51e3"), looks := true }, kinds := [], alts := [], laidByText := true, laidKinds := [.sentinel], laidTests := true, laidLooks := .later }
def FnPureRunCardSaid : Prop := Claim7.holds Tryz.pinned (.plain (OpenSpec.ofChange fnPureRunSpec)) fnPureRunCard

/-- THE TIED CARD OF 'laws.FnCheckForm'. -/
def fnCheckFormCard : Claim7 := { stood := { row := fnCheckFormRow, standIns := [], harness := (true, "a3c3065d0daae64e3866cb99e1a04ac66bcbd52d8b5ede612574047559fb51e3"), looks := true }, kinds := [], alts := [], laidByText := true, laidKinds := [.data, .data, .data, .handle, .sentinel, .sentinel, .sentinel, .sentinel], laidTests := true, laidLooks := .later }
def FnCheckFormCardSaid : Prop := Claim7.holds Tryz.pinned (.plain (OpenSpec.ofChange fnCheckFormSpec)) fnCheckFormCard

/-- THE SECOND FORM's CARD OF 'laws.FnCheckLess'. -/
def fnCheckLessUptoCard : Claim7 := { stood := { row := fnCheckLessUptoRow, standIns := [], harness := (true, "a3c3065d0daae64e3866cb99e1a04ac66bcbd52d8b5ede612574047559fb51e3"), looks := true }, kinds := [], alts := [], laidByText := true, laidKinds := [.handle, .sentinel, .sentinel, .sentinel, .sentinel], laidTests := true, laidLooks := .later }
def FnCheckLessUptoCardSaid : Prop := Claim7.holds Tryz.pinned (.plain (OpenSpec.upto fnCheckLessSpec)) fnCheckLessUptoCard

/-- THE SECOND FORM's CARD OF 'laws.FnCheckTwice'. -/
def fnCheckTwiceUptoCard : Claim7 := { stood := { row := fnCheckTwiceUptoRow, standIns := [], harness := (true, "a3c3065d0daae64e3866cb99e1a04ac66bcbd52d8b5ede612574047559fb51e3"), looks := true }, kinds := [], alts := [], laidByText := true, laidKinds := [.handle, .sentinel, .sentinel, .sentinel, .sentinel], laidTests := true, laidLooks := .later }
def FnCheckTwiceUptoCardSaid : Prop := Claim7.holds Tryz.pinned (.plain (OpenSpec.upto fnCheckTwiceSpec)) fnCheckTwiceUptoCard

/-- THE SECOND FORM's CARD OF 'laws.FnCheckMore'. -/
def fnCheckMoreUptoCard : Claim7 := { stood := { row := fnCheckMoreUptoRow, standIns := [], harness := (true, "a3c3065d0daae64e3866cb99e1a04ac66bcbd52d8b5ede612574047559fb51e3"), looks := true }, kinds := [], alts := [], laidByText := true, laidKinds := [.handle, .sentinel, .sentinel, .sentinel, .sentinel], laidTests := true, laidLooks := .later }
def FnCheckMoreUptoCardSaid : Prop := Claim7.holds Tryz.pinned (.plain (OpenSpec.upto fnCheckMoreSpec)) fnCheckMoreUptoCard

/-- THE SECOND FORM's CARD OF 'laws.FnCheckCut'. -/
def fnCheckCutUptoCard : Claim7 := { stood := { row := fnCheckCutUptoRow, standIns := [], harness := (true, "a3c3065d0daae64e3866cb99e1a04ac66bcbd52d8b5ede612574047559fb51e3"), looks := true }, kinds := [], alts := [], laidByText := true, laidKinds := [.handle, .sentinel, .sentinel, .sentinel, .sentinel], laidTests := true, laidLooks := .later }
def FnCheckCutUptoCardSaid : Prop := Claim7.holds Tryz.pinned (.plain (OpenSpec.upto fnCheckCutSpec)) fnCheckCutUptoCard

/-- THE SECOND FORM's CARD OF 'laws.FnPureRun'. -/
def fnPureRunUptoCard : Claim7 := { stood := { row := fnPureRunUptoRow, standIns := [], harness := (true, "a3c3065d0daae64e3866cb99e1a04ac66bcbd52d8b5ede612574047559fb51e3"), looks := true }, kinds := [], alts := [], laidByText := true, laidKinds := [.sentinel], laidTests := true, laidLooks := .later }
def FnPureRunUptoCardSaid : Prop := Claim7.holds Tryz.pinned (.plain (OpenSpec.upto fnPureRunSpec)) fnPureRunUptoCard

/-- THE SECOND FORM's CARD OF 'laws.FnCheckForm'. -/
def fnCheckFormUptoCard : Claim7 := { stood := { row := fnCheckFormUptoRow, standIns := [], harness := (true, "a3c3065d0daae64e3866cb99e1a04ac66bcbd52d8b5ede612574047559fb51e3"), looks := true }, kinds := [], alts := [], laidByText := true, laidKinds := [.data, .data, .data, .handle, .sentinel, .sentinel, .sentinel, .sentinel], laidTests := true, laidLooks := .later }
def FnCheckFormUptoCardSaid : Prop := Claim7.holds Tryz.pinned (.plain (OpenSpec.upto fnCheckFormSpec)) fnCheckFormUptoCard
end Rows
end Go.Proofs.YtghekniakencpaaGreatDoor
