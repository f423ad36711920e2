/-
  DERIVED. GIVEN WITH THE SEED: THE CARDS: each row of YtnmpniphpccgjaaGreatDoorRows.lean that lists a variable, with what it lists TIED to the program's text (the seventh form; the later family's looks); each row that meets fmt, with fmt's text TOLD by the authors' own Lean function (tested against real Go, not proved from fmt's source: count such statements apart). THE CARD IS WHAT COUNTS. Prove the row's statement (the work); the ties are given (YtnmpniphpccgjaaGreatDoorTie.lean); close each card by the builder's one call (the guide's Derived/Test/ToyasCard.lean, 'card_holds'). Laid BY PROGRAM, IN A SANDBOX (cutbox-door.mjs). By AI agents, Wed Nov 11 2026. No macro, syntax, notation, axiom, sorry.
-/
import Derived.Test.YtnmpniphpccgjaaGreatDoorRows
import GoSem.ClaimSeven
namespace Go.Proofs.YtnmpniphpccgjaaGreatDoor
namespace Rows

/-- THE TIED CARD OF 'laws.FnLendApart'. -/
def fnLendApartCard : Claim7 := { stood := { row := fnLendApartRow, standIns := [], harness := (true, "65d79d9ca41d052337de861cb5df7f65b8e4928653d82c7aeb6d0251da678422"), looks := true }, kinds := [], alts := [], laidByText := true, laidKinds := [.sentinel, .sentinel, .sentinel, .sentinel], laidTests := true, laidLooks := .later }
def FnLendApartCardSaid : Prop := Claim7.holds Tryz.pinned (.plain (OpenSpec.ofChange fnLendApartSpec)) fnLendApartCard

/-- THE TIED CARD OF 'laws.FnLendOrder'. -/
def fnLendOrderCard : Claim7 := { stood := { row := fnLendOrderRow, standIns := [], harness := (true, "65d79d9ca41d052337de861cb5df7f65b8e4928653d82c7aeb6d0251da678422"), looks := true }, kinds := [], alts := [], laidByText := true, laidKinds := [.sentinel, .sentinel, .sentinel, .sentinel], laidTests := true, laidLooks := .later }
def FnLendOrderCardSaid : Prop := Claim7.holds Tryz.pinned (.plain (OpenSpec.ofChange fnLendOrderSpec)) fnLendOrderCard

/-- THE TIED CARD OF 'laws.FnLendLive'. -/
def fnLendLiveCard : Claim7 := { stood := { row := fnLendLiveRow, standIns := [], harness := (true, "65d79d9ca41d052337de861cb5df7f65b8e4928653d82c7aeb6d0251da678422"), looks := true }, kinds := [], alts := [], laidByText := true, laidKinds := [.sentinel, .sentinel, .sentinel, .sentinel], laidTests := true, laidLooks := .later }
def FnLendLiveCardSaid : Prop := Claim7.holds Tryz.pinned (.plain (OpenSpec.ofChange fnLendLiveSpec)) fnLendLiveCard

/-- THE TIED CARD OF 'laws.FnLendEnds'. -/
def fnLendEndsCard : Claim7 := { stood := { row := fnLendEndsRow, standIns := [], harness := (true, "65d79d9ca41d052337de861cb5df7f65b8e4928653d82c7aeb6d0251da678422"), looks := true }, kinds := [], alts := [], laidByText := true, laidKinds := [.sentinel, .sentinel, .sentinel, .sentinel], laidTests := true, laidLooks := .later }
def FnLendEndsCardSaid : Prop := Claim7.holds Tryz.pinned (.plain (OpenSpec.ofChange fnLendEndsSpec)) fnLendEndsCard

/-- THE TIED CARD OF 'laws.FnLendOver'. -/
def fnLendOverCard : Claim7 := { stood := { row := fnLendOverRow, standIns := [], harness := (true, "65d79d9ca41d052337de861cb5df7f65b8e4928653d82c7aeb6d0251da678422"), looks := true }, kinds := [], alts := [], laidByText := true, laidKinds := [.sentinel, .sentinel, .sentinel, .sentinel], laidTests := true, laidLooks := .later }
def FnLendOverCardSaid : Prop := Claim7.holds Tryz.pinned (.plain (OpenSpec.ofChange fnLendOverSpec)) fnLendOverCard

/-- THE TIED CARD OF 'laws.FnLendParam'. -/
def fnLendParamCard : Claim7 := { stood := { row := fnLendParamRow, standIns := [], harness := (true, "65d79d9ca41d052337de861cb5df7f65b8e4928653d82c7aeb6d0251da678422"), looks := true }, kinds := [], alts := [], laidByText := true, laidKinds := [.handle, .sentinel, .sentinel, .sentinel, .sentinel], laidTests := true, laidLooks := .later }
def FnLendParamCardSaid : Prop := Claim7.holds Tryz.pinned (.plain (OpenSpec.ofChange fnLendParamSpec)) fnLendParamCard

/-- THE TIED CARD OF 'laws.FnLendNew'. -/
def fnLendNewCard : Claim7 := { stood := { row := fnLendNewRow, standIns := [], harness := (true, "65d79d9ca41d052337de861cb5df7f65b8e4928653d82c7aeb6d0251da678422"), looks := true }, kinds := [], alts := [], laidByText := true, laidKinds := [.handle, .sentinel, .sentinel, .sentinel, .sentinel], laidTests := true, laidLooks := .later }
def FnLendNewCardSaid : Prop := Claim7.holds Tryz.pinned (.plain (OpenSpec.ofChange fnLendNewSpec)) fnLendNewCard

/-- THE TIED CARD OF 'laws.FnLendUsed'. -/
def fnLendUsedCard : Claim7 := { stood := { row := fnLendUsedRow, standIns := [], harness := (true, "65d79d9ca41d052337de861cb5df7f65b8e4928653d82c7aeb6d0251da678422"), looks := true }, kinds := [], alts := [], laidByText := true, laidKinds := [.handle, .sentinel, .sentinel, .sentinel, .sentinel], laidTests := true, laidLooks := .later }
def FnLendUsedCardSaid : Prop := Claim7.holds Tryz.pinned (.plain (OpenSpec.ofChange fnLendUsedSpec)) fnLendUsedCard

/-- THE SECOND FORM's CARD OF 'laws.FnLendApart'. -/
def fnLendApartUptoCard : Claim7 := { stood := { row := fnLendApartUptoRow, standIns := [], harness := (true, "65d79d9ca41d052337de861cb5df7f65b8e4928653d82c7aeb6d0251da678422"), looks := true }, kinds := [], alts := [], laidByText := true, laidKinds := [.sentinel, .sentinel, .sentinel, .sentinel], laidTests := true, laidLooks := .later }
def FnLendApartUptoCardSaid : Prop := Claim7.holds Tryz.pinned (.plain (OpenSpec.upto fnLendApartSpec)) fnLendApartUptoCard

/-- THE SECOND FORM's CARD OF 'laws.FnLendOrder'. -/
def fnLendOrderUptoCard : Claim7 := { stood := { row := fnLendOrderUptoRow, standIns := [], harness := (true, "65d79d9ca41d052337de861cb5df7f65b8e4928653d82c7aeb6d0251da678422"), looks := true }, kinds := [], alts := [], laidByText := true, laidKinds := [.sentinel, .sentinel, .sentinel, .sentinel], laidTests := true, laidLooks := .later }
def FnLendOrderUptoCardSaid : Prop := Claim7.holds Tryz.pinned (.plain (OpenSpec.upto fnLendOrderSpec)) fnLendOrderUptoCard

/-- THE SECOND FORM's CARD OF 'laws.FnLendLive'. -/
def fnLendLiveUptoCard : Claim7 := { stood := { row := fnLendLiveUptoRow, standIns := [], harness := (true, "65d79d9ca41d052337de861cb5df7f65b8e4928653d82c7aeb6d0251da678422"), looks := true }, kinds := [], alts := [], laidByText := true, laidKinds := [.sentinel, .sentinel, .sentinel, .sentinel], laidTests := true, laidLooks := .later }
def FnLendLiveUptoCardSaid : Prop := Claim7.holds Tryz.pinned (.plain (OpenSpec.upto fnLendLiveSpec)) fnLendLiveUptoCard

/-- THE SECOND FORM's CARD OF 'laws.FnLendEnds'. -/
def fnLendEndsUptoCard : Claim7 := { stood := { row := fnLendEndsUptoRow, standIns := [], harness := (true, "65d79d9ca41d052337de861cb5df7f65b8e4928653d82c7aeb6d0251da678422"), looks := true }, kinds := [], alts := [], laidByText := true, laidKinds := [.sentinel, .sentinel, .sentinel, .sentinel], laidTests := true, laidLooks := .later }
def FnLendEndsUptoCardSaid : Prop := Claim7.holds Tryz.pinned (.plain (OpenSpec.upto fnLendEndsSpec)) fnLendEndsUptoCard

/-- THE SECOND FORM's CARD OF 'laws.FnLendOver'. -/
def fnLendOverUptoCard : Claim7 := { stood := { row := fnLendOverUptoRow, standIns := [], harness := (true, "65d79d9ca41d052337de861cb5df7f65b8e4928653d82c7aeb6d0251da678422"), looks := true }, kinds := [], alts := [], laidByText := true, laidKinds := [.sentinel, .sentinel, .sentinel, .sentinel], laidTests := true, laidLooks := .later }
def FnLendOverUptoCardSaid : Prop := Claim7.holds Tryz.pinned (.plain (OpenSpec.upto fnLendOverSpec)) fnLendOverUptoCard

/-- THE SECOND FORM's CARD OF 'laws.FnLendParam'. -/
def fnLendParamUptoCard : Claim7 := { stood := { row := fnLendParamUptoRow, standIns := [], harness := (true, "65d79d9ca41d052337de861cb5df7f65b8e4928653d82c7aeb6d0251da678422"), looks := true }, kinds := [], alts := [], laidByText := true, laidKinds := [.handle, .sentinel, .sentinel, .sentinel, .sentinel], laidTests := true, laidLooks := .later }
def FnLendParamUptoCardSaid : Prop := Claim7.holds Tryz.pinned (.plain (OpenSpec.upto fnLendParamSpec)) fnLendParamUptoCard

/-- THE SECOND FORM's CARD OF 'laws.FnLendNew'. -/
def fnLendNewUptoCard : Claim7 := { stood := { row := fnLendNewUptoRow, standIns := [], harness := (true, "65d79d9ca41d052337de861cb5df7f65b8e4928653d82c7aeb6d0251da678422"), looks := true }, kinds := [], alts := [], laidByText := true, laidKinds := [.handle, .sentinel, .sentinel, .sentinel, .sentinel], laidTests := true, laidLooks := .later }
def FnLendNewUptoCardSaid : Prop := Claim7.holds Tryz.pinned (.plain (OpenSpec.upto fnLendNewSpec)) fnLendNewUptoCard

/-- THE SECOND FORM's CARD OF 'laws.FnLendUsed'. -/
def fnLendUsedUptoCard : Claim7 := { stood := { row := fnLendUsedUptoRow, standIns := [], harness := (true, "65d79d9ca41d052337de861cb5df7f65b8e4928653d82c7aeb6d0251da678422"), looks := true }, kinds := [], alts := [], laidByText := true, laidKinds := [.handle, .sentinel, .sentinel, .sentinel, .sentinel], laidTests := true, laidLooks := .later }
def FnLendUsedUptoCardSaid : Prop := Claim7.holds Tryz.pinned (.plain (OpenSpec.upto fnLendUsedSpec)) fnLendUsedUptoCard
end Rows
end Go.Proofs.YtnmpniphpccgjaaGreatDoor
