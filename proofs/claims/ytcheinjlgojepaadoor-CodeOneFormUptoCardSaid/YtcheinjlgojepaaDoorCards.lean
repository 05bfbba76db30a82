/-
  DERIVED. GIVEN WITH THE SEED: THE CARDS: each row of YtcheinjlgojepaaDoorRows.lean that lists a variable, with what it lists TIED to the program's text (the seventh form; the later family's looks); each row that meets fmt, with fmt's text TOLD by the authors' own Lean function (tested against real Go, not proved from fmt's source: count such statements apart). THE CARD IS WHAT COUNTS. Prove the row's statement (the work); the ties are given (YtcheinjlgojepaaDoorTie.lean); close each card by the builder's one call (the guide's Derived/Test/ToyasCard.lean, 'card_holds'). Laid BY PROGRAM, IN A SANDBOX (cutbox-door.mjs). By AI agents, Wed Nov 11 2026. No macro, syntax, notation, axiom, sorry.
-/
import Derived.Test.YtcheinjlgojepaaDoorRows
import GoSem.ClaimSeven
namespace Go.Proofs.YtcheinjlgojepaaDoor
namespace Rows

/-- THE TIED CARD OF 'reeflaw02.CodeAfter'. -/
def codeAfterCard : Claim7 := { stood := { row := codeAfterRow, standIns := [], harness := (true, "5eefdbeb6646c9019afb98d5bfb258a1433c7a4e8d55be81d4ff166f91606c0e"), looks := false }, kinds := [], alts := [], laidByText := true, laidKinds := [.data, .pinned], laidTests := true, laidLooks := .later }
def CodeAfterCardSaid : Prop := Claim7.holds Tryd.pinned (.plain (OpenSpec.ofChange codeAfterSpec)) codeAfterCard

/-- THE TIED CARD OF 'reeflaw02.CodeWrites'. -/
def codeWritesCard : Claim7 := { stood := { row := codeWritesRow, standIns := [], harness := (true, "5eefdbeb6646c9019afb98d5bfb258a1433c7a4e8d55be81d4ff166f91606c0e"), looks := false }, kinds := [], alts := [], laidByText := true, laidKinds := [.data, .pinned], laidTests := true, laidLooks := .later }
def CodeWritesCardSaid : Prop := Claim7.holds Tryd.pinned (.plain (OpenSpec.ofChange codeWritesSpec)) codeWritesCard

/-- THE TIED CARD OF 'reeflaw02.CodeOrders'. -/
def codeOrdersCard : Claim7 := { stood := { row := codeOrdersRow, standIns := [], harness := (true, "5eefdbeb6646c9019afb98d5bfb258a1433c7a4e8d55be81d4ff166f91606c0e"), looks := false }, kinds := [], alts := [], laidByText := true, laidKinds := [.data, .pinned], laidTests := true, laidLooks := .later }
def CodeOrdersCardSaid : Prop := Claim7.holds Tryd.pinned (.plain (OpenSpec.ofChange codeOrdersSpec)) codeOrdersCard

/-- THE TIED CARD OF 'reeflaw02.CodeOneForm'. -/
def codeOneFormCard : Claim7 := { stood := { row := codeOneFormRow, standIns := [], harness := (true, "5eefdbeb6646c9019afb98d5bfb258a1433c7a4e8d55be81d4ff166f91606c0e"), looks := false }, kinds := [], alts := [], laidByText := true, laidKinds := [.data, .pinned], laidTests := true, laidLooks := .later }
def CodeOneFormCardSaid : Prop := Claim7.holds Tryd.pinned (.plain (OpenSpec.ofChange codeOneFormSpec)) codeOneFormCard

/-- THE TIED CARD OF 'reeflaw02.CodeBack'. -/
def codeBackCard : Claim7 := { stood := { row := codeBackRow, standIns := [], harness := (true, "5eefdbeb6646c9019afb98d5bfb258a1433c7a4e8d55be81d4ff166f91606c0e"), looks := false }, kinds := [], alts := [], laidByText := true, laidKinds := [.data, .pinned], laidTests := true, laidLooks := .later }
def CodeBackCardSaid : Prop := Claim7.holds Tryd.pinned (.plain (OpenSpec.ofChange codeBackSpec)) codeBackCard

/-- THE SECOND FORM's CARD OF 'reeflaw02.CodeAfter'. -/
def codeAfterUptoCard : Claim7 := { stood := { row := codeAfterUptoRow, standIns := [], harness := (true, "5eefdbeb6646c9019afb98d5bfb258a1433c7a4e8d55be81d4ff166f91606c0e"), looks := false }, kinds := [], alts := [], laidByText := true, laidKinds := [.data, .pinned], laidTests := true, laidLooks := .later }
def CodeAfterUptoCardSaid : Prop := Claim7.holds Tryd.pinned (.plain (OpenSpec.upto codeAfterSpec)) codeAfterUptoCard

/-- THE SECOND FORM's CARD OF 'reeflaw02.CodeWrites'. -/
def codeWritesUptoCard : Claim7 := { stood := { row := codeWritesUptoRow, standIns := [], harness := (true, "5eefdbeb6646c9019afb98d5bfb258a1433c7a4e8d55be81d4ff166f91606c0e"), looks := false }, kinds := [], alts := [], laidByText := true, laidKinds := [.data, .pinned], laidTests := true, laidLooks := .later }
def CodeWritesUptoCardSaid : Prop := Claim7.holds Tryd.pinned (.plain (OpenSpec.upto codeWritesSpec)) codeWritesUptoCard

/-- THE SECOND FORM's CARD OF 'reeflaw02.CodeOrders'. -/
def codeOrdersUptoCard : Claim7 := { stood := { row := codeOrdersUptoRow, standIns := [], harness := (true, "5eefdbeb6646c9019afb98d5bfb258a1433c7a4e8d55be81d4ff166f91606c0e"), looks := false }, kinds := [], alts := [], laidByText := true, laidKinds := [.data, .pinned], laidTests := true, laidLooks := .later }
def CodeOrdersUptoCardSaid : Prop := Claim7.holds Tryd.pinned (.plain (OpenSpec.upto codeOrdersSpec)) codeOrdersUptoCard

/-- THE SECOND FORM's CARD OF 'reeflaw02.CodeOneForm'. -/
def codeOneFormUptoCard : Claim7 := { stood := { row := codeOneFormUptoRow, standIns := [], harness := (true, "5eefdbeb6646c9019afb98d5bfb258a1433c7a4e8d55be81d4ff166f91606c0e"), looks := false }, kinds := [], alts := [], laidByText := true, laidKinds := [.data, .pinned], laidTests := true, laidLooks := .later }
def CodeOneFormUptoCardSaid : Prop := Claim7.holds Tryd.pinned (.plain (OpenSpec.upto codeOneFormSpec)) codeOneFormUptoCard

/-- THE SECOND FORM's CARD OF 'reeflaw02.CodeBack'. -/
def codeBackUptoCard : Claim7 := { stood := { row := codeBackUptoRow, standIns := [], harness := (true, "5eefdbeb6646c9019afb98d5bfb258a1433c7a4e8d55be81d4ff166f91606c0e"), looks := false }, kinds := [], alts := [], laidByText := true, laidKinds := [.data, .pinned], laidTests := true, laidLooks := .later }
def CodeBackUptoCardSaid : Prop := Claim7.holds Tryd.pinned (.plain (OpenSpec.upto codeBackSpec)) codeBackUptoCard
end Rows
end Go.Proofs.YtcheinjlgojepaaDoor
