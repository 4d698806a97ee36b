/-
  DERIVED. GIVEN WITH THE SEED: THE CARDS: each row of YticgechhgdgjlaaGreatDoorRows.lean that lists a variable, with what it lists TIED to the program's text (the seventh form; the later family's looks); each row that meets fmt, with fmt's text TOLD by the authors' own Lean function (tested against real Go, not proved from fmt's source: count such statements apart). THE CARD IS WHAT COUNTS. Prove the row's statement (the work); the ties are given (YticgechhgdgjlaaGreatDoorTie.lean); close each card by the builder's one call (the guide's Derived/Test/ToyasCard.lean, 'card_holds'). Laid BY PROGRAM, IN A SANDBOX (cutbox-door.mjs). By AI agents, Wed Nov 11 2026. No macro, syntax, notation, axiom, sorry.
-/
import Derived.Test.YticgechhgdgjlaaGreatDoorRows
import GoSem.ClaimSeven
namespace Go.Proofs.YticgechhgdgjlaaGreatDoor
namespace Rows

/-- THE TIED CARD OF 'pliantlaw10.CoreResults'. -/
def coreResultsCard : Claim7 := { stood := { row := coreResultsRow, standIns := [], harness := (true, "f874ffd9938888031624e5996c1b13a8af86322812edc42febcd9e3cd0564ff1"), looks := true }, kinds := [], alts := [], laidByText := true, laidKinds := [.data, .data, .data, .data, .sentinel, .sentinel, .data, .data, .data, .pinned], laidTests := true, laidLooks := .later }
def CoreResultsCardSaid : Prop := Claim7.holds Tryz.pinned (.plain (OpenSpec.ofChange coreResultsSpec)) coreResultsCard

/-- THE TIED CARD OF 'pliantlaw10.CoreOneType'. -/
def coreOneTypeCard : Claim7 := { stood := { row := coreOneTypeRow, standIns := [], harness := (true, "f874ffd9938888031624e5996c1b13a8af86322812edc42febcd9e3cd0564ff1"), looks := true }, kinds := [], alts := [], laidByText := true, laidKinds := [.data, .data, .data, .data, .sentinel, .sentinel, .data, .data, .data, .pinned], laidTests := true, laidLooks := .later }
def CoreOneTypeCardSaid : Prop := Claim7.holds Tryz.pinned (.plain (OpenSpec.ofChange coreOneTypeSpec)) coreOneTypeCard

/-- THE TIED CARD OF 'pliantlaw10.CoreVisible'. -/
def coreVisibleCard : Claim7 := { stood := { row := coreVisibleRow, standIns := [], harness := (true, "f874ffd9938888031624e5996c1b13a8af86322812edc42febcd9e3cd0564ff1"), looks := true }, kinds := [], alts := [], laidByText := true, laidKinds := [.data, .data, .data, .data, .sentinel, .sentinel, .data, .data, .data, .pinned], laidTests := true, laidLooks := .later }
def CoreVisibleCardSaid : Prop := Claim7.holds Tryz.pinned (.plain (OpenSpec.ofChange coreVisibleSpec)) coreVisibleCard

/-- THE TIED CARD OF 'pliantlaw10.CoreKept'. -/
def coreKeptCard : Claim7 := { stood := { row := coreKeptRow, standIns := [], harness := (true, "f874ffd9938888031624e5996c1b13a8af86322812edc42febcd9e3cd0564ff1"), looks := true }, kinds := [], alts := [], laidByText := true, laidKinds := [.data, .data, .data, .data, .sentinel, .sentinel, .data, .data, .data, .pinned], laidTests := true, laidLooks := .later }
def CoreKeptCardSaid : Prop := Claim7.holds Tryz.pinned (.plain (OpenSpec.ofChange coreKeptSpec)) coreKeptCard

/-- THE TIED CARD OF 'pliantlaw10.CoreCounts'. -/
def coreCountsCard : Claim7 := { stood := { row := coreCountsRow, standIns := [], harness := (true, "f874ffd9938888031624e5996c1b13a8af86322812edc42febcd9e3cd0564ff1"), looks := true }, kinds := [], alts := [], laidByText := true, laidKinds := [.data, .data, .data, .data, .sentinel, .sentinel, .data, .data, .data, .pinned], laidTests := true, laidLooks := .later }
def CoreCountsCardSaid : Prop := Claim7.holds Tryz.pinned (.plain (OpenSpec.ofChange coreCountsSpec)) coreCountsCard

/-- THE TIED CARD OF 'pliantlaw10.CoreReached'. -/
def coreReachedCard : Claim7 := { stood := { row := coreReachedRow, standIns := [], harness := (true, "f874ffd9938888031624e5996c1b13a8af86322812edc42febcd9e3cd0564ff1"), looks := true }, kinds := [], alts := [], laidByText := true, laidKinds := [.data, .data, .data, .data, .sentinel, .sentinel, .data, .data, .data, .pinned], laidTests := true, laidLooks := .later }
def CoreReachedCardSaid : Prop := Claim7.holds Tryz.pinned (.plain (OpenSpec.ofChange coreReachedSpec)) coreReachedCard

/-- THE SECOND FORM's CARD OF 'pliantlaw10.CoreResults'. -/
def coreResultsUptoCard : Claim7 := { stood := { row := coreResultsUptoRow, standIns := [], harness := (true, "f874ffd9938888031624e5996c1b13a8af86322812edc42febcd9e3cd0564ff1"), looks := true }, kinds := [], alts := [], laidByText := true, laidKinds := [.data, .data, .data, .data, .sentinel, .sentinel, .data, .data, .data, .pinned], laidTests := true, laidLooks := .later }
def CoreResultsUptoCardSaid : Prop := Claim7.holds Tryz.pinned (.plain (OpenSpec.upto coreResultsSpec)) coreResultsUptoCard

/-- THE SECOND FORM's CARD OF 'pliantlaw10.CoreOneType'. -/
def coreOneTypeUptoCard : Claim7 := { stood := { row := coreOneTypeUptoRow, standIns := [], harness := (true, "f874ffd9938888031624e5996c1b13a8af86322812edc42febcd9e3cd0564ff1"), looks := true }, kinds := [], alts := [], laidByText := true, laidKinds := [.data, .data, .data, .data, .sentinel, .sentinel, .data, .data, .data, .pinned], laidTests := true, laidLooks := .later }
def CoreOneTypeUptoCardSaid : Prop := Claim7.holds Tryz.pinned (.plain (OpenSpec.upto coreOneTypeSpec)) coreOneTypeUptoCard

/-- THE SECOND FORM's CARD OF 'pliantlaw10.CoreVisible'. -/
def coreVisibleUptoCard : Claim7 := { stood := { row := coreVisibleUptoRow, standIns := [], harness := (true, "f874ffd9938888031624e5996c1b13a8af86322812edc42febcd9e3cd0564ff1"), looks := true }, kinds := [], alts := [], laidByText := true, laidKinds := [.data, .data, .data, .data, .sentinel, .sentinel, .data, .data, .data, .pinned], laidTests := true, laidLooks := .later }
def CoreVisibleUptoCardSaid : Prop := Claim7.holds Tryz.pinned (.plain (OpenSpec.upto coreVisibleSpec)) coreVisibleUptoCard

/-- THE SECOND FORM's CARD OF 'pliantlaw10.CoreKept'. -/
def coreKeptUptoCard : Claim7 := { stood := { row := coreKeptUptoRow, standIns := [], harness := (true, "f874ffd9938888031624e5996c1b13a8af86322812edc42febcd9e3cd0564ff1"), looks := true }, kinds := [], alts := [], laidByText := true, laidKinds := [.data, .data, .data, .data, .sentinel, .sentinel, .data, .data, .data, .pinned], laidTests := true, laidLooks := .later }
def CoreKeptUptoCardSaid : Prop := Claim7.holds Tryz.pinned (.plain (OpenSpec.upto coreKeptSpec)) coreKeptUptoCard

/-- THE SECOND FORM's CARD OF 'pliantlaw10.CoreCounts'. -/
def coreCountsUptoCard : Claim7 := { stood := { row := coreCountsUptoRow, standIns := [], harness := (true, "f874ffd9938888031624e5996c1b13a8af86322812edc42febcd9e3cd0564ff1"), looks := true }, kinds := [], alts := [], laidByText := true, laidKinds := [.data, .data, .data, .data, .sentinel, .sentinel, .data, .data, .data, .pinned], laidTests := true, laidLooks := .later }
def CoreCountsUptoCardSaid : Prop := Claim7.holds Tryz.pinned (.plain (OpenSpec.upto coreCountsSpec)) coreCountsUptoCard

/-- THE SECOND FORM's CARD OF 'pliantlaw10.CoreReached'. -/
def coreReachedUptoCard : Claim7 := { stood := { row := coreReachedUptoRow, standIns := [], harness := (true, "f874ffd9938888031624e5996c1b13a8af86322812edc42febcd9e3cd0564ff1"), looks := true }, kinds := [], alts := [], laidByText := true, laidKinds := [.data, .data, .data, .data, .sentinel, .sentinel, .data, .data, .data, .pinned], laidTests := true, laidLooks := .later }
def CoreReachedUptoCardSaid : Prop := Claim7.holds Tryz.pinned (.plain (OpenSpec.upto coreReachedSpec)) coreReachedUptoCard
end Rows
end Go.Proofs.YticgechhgdgjlaaGreatDoor
