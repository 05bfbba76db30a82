/-
  DERIVED. GIVEN WITH THE SEED: THE CARDS: each row of YteajaofcgcgodaaDoorRows.lean that lists a variable, with what it lists TIED to the program's text (the seventh form; the later family's looks); each row that meets fmt, with fmt's text TOLD by the authors' own Lean function (tested against real Go, not proved from fmt's source: count such statements apart). THE CARD IS WHAT COUNTS. Prove the row's statement (the work); the ties are given (YteajaofcgcgodaaDoorTie.lean); close each card by the builder's one call (the guide's Derived/Test/ToyasCard.lean, 'card_holds'). Laid BY PROGRAM, IN A SANDBOX (cutbox-door.mjs). By AI agents, Wed Nov 11 2026. No macro, syntax, notation, axiom, sorry.
-/
import Derived.Test.YteajaofcgcgodaaDoorRows
import GoSem.ClaimSeven
namespace Go.Proofs.YteajaofcgcgodaaDoor
namespace Rows

/-- THE TIED CARD OF 'reeflaw28.StripeFrags'. -/
def stripeFragsCard : Claim7 := { stood := { row := stripeFragsRow, standIns := [], harness := (true, "1c02db378920e92afb26e1bf1748456e4a3dbd65455fa1596950d6d5afc54032"), looks := true }, kinds := [], alts := [], laidByText := true, laidKinds := [.data, .data, .data], laidTests := true, laidLooks := .later }
def StripeFragsCardSaid : Prop := Claim7.holds Tryd.pinned (.plain (OpenSpec.ofChange stripeFragsSpec)) stripeFragsCard

/-- THE TIED CARD OF 'reeflaw28.StripeSizes'. -/
def stripeSizesCard : Claim7 := { stood := { row := stripeSizesRow, standIns := [], harness := (true, "1c02db378920e92afb26e1bf1748456e4a3dbd65455fa1596950d6d5afc54032"), looks := true }, kinds := [], alts := [], laidByText := true, laidKinds := [.data, .data, .data], laidTests := true, laidLooks := .later }
def StripeSizesCardSaid : Prop := Claim7.holds Tryd.pinned (.plain (OpenSpec.ofChange stripeSizesSpec)) stripeSizesCard

/-- THE TIED CARD OF 'reeflaw28.StripeGrows'. -/
def stripeGrowsCard : Claim7 := { stood := { row := stripeGrowsRow, standIns := [], harness := (true, "1c02db378920e92afb26e1bf1748456e4a3dbd65455fa1596950d6d5afc54032"), looks := true }, kinds := [], alts := [], laidByText := true, laidKinds := [.data, .data, .data], laidTests := true, laidLooks := .later }
def StripeGrowsCardSaid : Prop := Claim7.holds Tryd.pinned (.plain (OpenSpec.ofChange stripeGrowsSpec)) stripeGrowsCard

/-- THE TIED CARD OF 'reeflaw28.StripePlaces'. -/
def stripePlacesCard : Claim7 := { stood := { row := stripePlacesRow, standIns := [], harness := (true, "1c02db378920e92afb26e1bf1748456e4a3dbd65455fa1596950d6d5afc54032"), looks := true }, kinds := [], alts := [], laidByText := true, laidKinds := [.data, .data, .data], laidTests := true, laidLooks := .later }
def StripePlacesCardSaid : Prop := Claim7.holds Tryd.pinned (.plain (OpenSpec.ofChange stripePlacesSpec)) stripePlacesCard

/-- THE TIED CARD OF 'reeflaw28.StripeOnce'. -/
def stripeOnceCard : Claim7 := { stood := { row := stripeOnceRow, standIns := [], harness := (true, "1c02db378920e92afb26e1bf1748456e4a3dbd65455fa1596950d6d5afc54032"), looks := true }, kinds := [], alts := [], laidByText := true, laidKinds := [.data, .data, .data], laidTests := true, laidLooks := .later }
def StripeOnceCardSaid : Prop := Claim7.holds Tryd.pinned (.plain (OpenSpec.ofChange stripeOnceSpec)) stripeOnceCard

/-- THE TIED CARD OF 'reeflaw28.StripeCuts'. -/
def stripeCutsCard : Claim7 := { stood := { row := stripeCutsRow, standIns := [], harness := (true, "1c02db378920e92afb26e1bf1748456e4a3dbd65455fa1596950d6d5afc54032"), looks := true }, kinds := [], alts := [], laidByText := true, laidKinds := [.data, .data, .data], laidTests := true, laidLooks := .later }
def StripeCutsCardSaid : Prop := Claim7.holds Tryd.pinned (.plain (OpenSpec.ofChange stripeCutsSpec)) stripeCutsCard

/-- THE TIED CARD OF 'reeflaw28.StripeWhole'. -/
def stripeWholeCard : Claim7 := { stood := { row := stripeWholeRow, standIns := [], harness := (true, "1c02db378920e92afb26e1bf1748456e4a3dbd65455fa1596950d6d5afc54032"), looks := true }, kinds := [], alts := [], laidByText := true, laidKinds := [.data, .data, .data], laidTests := true, laidLooks := .later }
def StripeWholeCardSaid : Prop := Claim7.holds Tryd.pinned (.plain (OpenSpec.ofChange stripeWholeSpec)) stripeWholeCard

/-- THE TIED CARD OF 'reeflaw28.StripeNames'. -/
def stripeNamesCard : Claim7 := { stood := { row := stripeNamesRow, standIns := [], harness := (true, "1c02db378920e92afb26e1bf1748456e4a3dbd65455fa1596950d6d5afc54032"), looks := true }, kinds := [], alts := [], laidByText := true, laidKinds := [.data, .data, .data, .sentinel, .sentinel], laidTests := true, laidLooks := .later }
def StripeNamesCardSaid : Prop := Claim7.holds Tryd.pinned (.plain (OpenSpec.ofChange stripeNamesSpec)) stripeNamesCard

/-- THE SECOND FORM's CARD OF 'reeflaw28.StripeFrags'. -/
def stripeFragsUptoCard : Claim7 := { stood := { row := stripeFragsUptoRow, standIns := [], harness := (true, "1c02db378920e92afb26e1bf1748456e4a3dbd65455fa1596950d6d5afc54032"), looks := true }, kinds := [], alts := [], laidByText := true, laidKinds := [.data, .data, .data], laidTests := true, laidLooks := .later }
def StripeFragsUptoCardSaid : Prop := Claim7.holds Tryd.pinned (.plain (OpenSpec.upto stripeFragsSpec)) stripeFragsUptoCard

/-- THE SECOND FORM's CARD OF 'reeflaw28.StripeSizes'. -/
def stripeSizesUptoCard : Claim7 := { stood := { row := stripeSizesUptoRow, standIns := [], harness := (true, "1c02db378920e92afb26e1bf1748456e4a3dbd65455fa1596950d6d5afc54032"), looks := true }, kinds := [], alts := [], laidByText := true, laidKinds := [.data, .data, .data], laidTests := true, laidLooks := .later }
def StripeSizesUptoCardSaid : Prop := Claim7.holds Tryd.pinned (.plain (OpenSpec.upto stripeSizesSpec)) stripeSizesUptoCard

/-- THE SECOND FORM's CARD OF 'reeflaw28.StripeGrows'. -/
def stripeGrowsUptoCard : Claim7 := { stood := { row := stripeGrowsUptoRow, standIns := [], harness := (true, "1c02db378920e92afb26e1bf1748456e4a3dbd65455fa1596950d6d5afc54032"), looks := true }, kinds := [], alts := [], laidByText := true, laidKinds := [.data, .data, .data], laidTests := true, laidLooks := .later }
def StripeGrowsUptoCardSaid : Prop := Claim7.holds Tryd.pinned (.plain (OpenSpec.upto stripeGrowsSpec)) stripeGrowsUptoCard

/-- THE SECOND FORM's CARD OF 'reeflaw28.StripePlaces'. -/
def stripePlacesUptoCard : Claim7 := { stood := { row := stripePlacesUptoRow, standIns := [], harness := (true, "1c02db378920e92afb26e1bf1748456e4a3dbd65455fa1596950d6d5afc54032"), looks := true }, kinds := [], alts := [], laidByText := true, laidKinds := [.data, .data, .data], laidTests := true, laidLooks := .later }
def StripePlacesUptoCardSaid : Prop := Claim7.holds Tryd.pinned (.plain (OpenSpec.upto stripePlacesSpec)) stripePlacesUptoCard

/-- THE SECOND FORM's CARD OF 'reeflaw28.StripeOnce'. -/
def stripeOnceUptoCard : Claim7 := { stood := { row := stripeOnceUptoRow, standIns := [], harness := (true, "1c02db378920e92afb26e1bf1748456e4a3dbd65455fa1596950d6d5afc54032"), looks := true }, kinds := [], alts := [], laidByText := true, laidKinds := [.data, .data, .data], laidTests := true, laidLooks := .later }
def StripeOnceUptoCardSaid : Prop := Claim7.holds Tryd.pinned (.plain (OpenSpec.upto stripeOnceSpec)) stripeOnceUptoCard

/-- THE SECOND FORM's CARD OF 'reeflaw28.StripeCuts'. -/
def stripeCutsUptoCard : Claim7 := { stood := { row := stripeCutsUptoRow, standIns := [], harness := (true, "1c02db378920e92afb26e1bf1748456e4a3dbd65455fa1596950d6d5afc54032"), looks := true }, kinds := [], alts := [], laidByText := true, laidKinds := [.data, .data, .data], laidTests := true, laidLooks := .later }
def StripeCutsUptoCardSaid : Prop := Claim7.holds Tryd.pinned (.plain (OpenSpec.upto stripeCutsSpec)) stripeCutsUptoCard

/-- THE SECOND FORM's CARD OF 'reeflaw28.StripeWhole'. -/
def stripeWholeUptoCard : Claim7 := { stood := { row := stripeWholeUptoRow, standIns := [], harness := (true, "1c02db378920e92afb26e1bf1748456e4a3dbd65455fa1596950d6d5afc54032"), looks := true }, kinds := [], alts := [], laidByText := true, laidKinds := [.data, .data, .data], laidTests := true, laidLooks := .later }
def StripeWholeUptoCardSaid : Prop := Claim7.holds Tryd.pinned (.plain (OpenSpec.upto stripeWholeSpec)) stripeWholeUptoCard

/-- THE SECOND FORM's CARD OF 'reeflaw28.StripeNames'. -/
def stripeNamesUptoCard : Claim7 := { stood := { row := stripeNamesUptoRow, standIns := [], harness := (true, "1c02db378920e92afb26e1bf1748456e4a3dbd65455fa1596950d6d5afc54032"), looks := true }, kinds := [], alts := [], laidByText := true, laidKinds := [.data, .data, .data, .sentinel, .sentinel], laidTests := true, laidLooks := .later }
def StripeNamesUptoCardSaid : Prop := Claim7.holds Tryd.pinned (.plain (OpenSpec.upto stripeNamesSpec)) stripeNamesUptoCard
end Rows
end Go.Proofs.YteajaofcgcgodaaDoor
