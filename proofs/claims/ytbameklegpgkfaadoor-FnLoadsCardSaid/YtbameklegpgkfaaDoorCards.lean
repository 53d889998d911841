/-
  DERIVED. GIVEN WITH THE SEED: THE CARDS: each row of YtbameklegpgkfaaDoorRows.lean that lists a variable, with what it lists TIED to the program's text (the seventh form; the later family's looks); each row that meets fmt, with fmt's text TOLD by the authors' own Lean function (tested against real Go, not proved from fmt's source: count such statements apart). THE CARD IS WHAT COUNTS. Prove the row's statement (the work); the ties are given (YtbameklegpgkfaaDoorTie.lean); close each card by the builder's one call (the guide's Derived/Test/ToyasCard.lean, 'card_holds'). Laid BY PROGRAM, IN A SANDBOX (cutbox-door.mjs). By AI agents, Wed Nov 11 2026. No macro, syntax, notation, axiom, sorry.
-/
import Derived.Test.YtbameklegpgkfaaDoorRows
import GoSem.ClaimSeven
namespace Go.Proofs.YtbameklegpgkfaaDoor
namespace Rows

/-- THE TIED CARD OF 'laws.FnShifts'. -/
def fnShiftsCard : Claim7 := { stood := { row := fnShiftsRow, standIns := [], harness := (true, "362c60745574123c3cd2ae6b22c0983c9c2e077e3cc1ac4b5ca86126e12968c0"), looks := false }, kinds := [], alts := [], laidByText := true, laidKinds := [.data, .data, .data], laidTests := true, laidLooks := .later }
def FnShiftsCardSaid : Prop := Claim7.holds Tryd.pinned (.plain (OpenSpec.ofChange fnShiftsSpec)) fnShiftsCard

/-- THE TIED CARD OF 'laws.FnDebriefs'. -/
def fnDebriefsCard : Claim7 := { stood := { row := fnDebriefsRow, standIns := [], harness := (true, "362c60745574123c3cd2ae6b22c0983c9c2e077e3cc1ac4b5ca86126e12968c0"), looks := false }, kinds := [], alts := [], laidByText := true, laidKinds := [.data, .data, .data], laidTests := true, laidLooks := .later }
def FnDebriefsCardSaid : Prop := Claim7.holds Tryd.pinned (.plain (OpenSpec.ofChange fnDebriefsSpec)) fnDebriefsCard

/-- THE TIED CARD OF 'laws.FnLoads'. -/
def fnLoadsCard : Claim7 := { stood := { row := fnLoadsRow, standIns := [], harness := (true, "362c60745574123c3cd2ae6b22c0983c9c2e077e3cc1ac4b5ca86126e12968c0"), looks := false }, kinds := [], alts := [], laidByText := true, laidKinds := [.data, .data, .data], laidTests := true, laidLooks := .later }
def FnLoadsCardSaid : Prop := Claim7.holds Tryd.pinned (.plain (OpenSpec.ofChange fnLoadsSpec)) fnLoadsCard

/-- THE SECOND FORM's CARD OF 'laws.FnShifts'. -/
def fnShiftsUptoCard : Claim7 := { stood := { row := fnShiftsUptoRow, standIns := [], harness := (true, "362c60745574123c3cd2ae6b22c0983c9c2e077e3cc1ac4b5ca86126e12968c0"), looks := false }, kinds := [], alts := [], laidByText := true, laidKinds := [.data, .data, .data], laidTests := true, laidLooks := .later }
def FnShiftsUptoCardSaid : Prop := Claim7.holds Tryd.pinned (.plain (OpenSpec.upto fnShiftsSpec)) fnShiftsUptoCard

/-- THE SECOND FORM's CARD OF 'laws.FnDebriefs'. -/
def fnDebriefsUptoCard : Claim7 := { stood := { row := fnDebriefsUptoRow, standIns := [], harness := (true, "362c60745574123c3cd2ae6b22c0983c9c2e077e3cc1ac4b5ca86126e12968c0"), looks := false }, kinds := [], alts := [], laidByText := true, laidKinds := [.data, .data, .data], laidTests := true, laidLooks := .later }
def FnDebriefsUptoCardSaid : Prop := Claim7.holds Tryd.pinned (.plain (OpenSpec.upto fnDebriefsSpec)) fnDebriefsUptoCard

/-- THE SECOND FORM's CARD OF 'laws.FnLoads'. -/
def fnLoadsUptoCard : Claim7 := { stood := { row := fnLoadsUptoRow, standIns := [], harness := (true, "362c60745574123c3cd2ae6b22c0983c9c2e077e3cc1ac4b5ca86126e12968c0"), looks := false }, kinds := [], alts := [], laidByText := true, laidKinds := [.data, .data, .data], laidTests := true, laidLooks := .later }
def FnLoadsUptoCardSaid : Prop := Claim7.holds Tryd.pinned (.plain (OpenSpec.upto fnLoadsSpec)) fnLoadsUptoCard
end Rows
end Go.Proofs.YtbameklegpgkfaaDoor
