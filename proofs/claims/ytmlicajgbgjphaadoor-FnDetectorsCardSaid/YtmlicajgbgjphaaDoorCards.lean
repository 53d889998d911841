/-
  DERIVED. GIVEN WITH THE SEED: THE CARDS: each row of YtmlicajgbgjphaaDoorRows.lean that lists a variable, with what it lists TIED to the program's text (the seventh form; the later family's looks); each row that meets fmt, with fmt's text TOLD by the authors' own Lean function (tested against real Go, not proved from fmt's source: count such statements apart). THE CARD IS WHAT COUNTS. Prove the row's statement (the work); the ties are given (YtmlicajgbgjphaaDoorTie.lean); close each card by the builder's one call (the guide's Derived/Test/ToyasCard.lean, 'card_holds'). Laid BY PROGRAM, IN A SANDBOX (cutbox-door.mjs). By AI agents, Wed Nov 11 2026. No macro, syntax, notation, axiom, sorry.
-/
import Derived.Test.YtmlicajgbgjphaaDoorRows
import GoSem.ClaimSeven
namespace Go.Proofs.YtmlicajgbgjphaaDoor
namespace Rows

/-- THE TIED CARD OF 'laws.FnExactTurnoutsText'. -/
def fnExactTurnoutsTextCard : Claim7 := { stood := { row := fnExactTurnoutsTextRow, standIns := [], harness := (true, "3ead0470a8978f28df417df2f21d2f4f9944c2434e1c8a0785672c8e879742a9"), looks := false }, kinds := [], alts := [], laidByText := true, laidKinds := [.data, .data, .data], laidTests := true, laidLooks := .later }
def FnExactTurnoutsTextCardSaid : Prop := Claim7.holds Tryd.pinned (.plain (OpenSpec.ofChange fnExactTurnoutsTextSpec)) fnExactTurnoutsTextCard

/-- THE TIED CARD OF 'laws.FnExactDetectorsText'. -/
def fnExactDetectorsTextCard : Claim7 := { stood := { row := fnExactDetectorsTextRow, standIns := [], harness := (true, "3ead0470a8978f28df417df2f21d2f4f9944c2434e1c8a0785672c8e879742a9"), looks := false }, kinds := [], alts := [], laidByText := true, laidKinds := [.data, .data, .data], laidTests := true, laidLooks := .later }
def FnExactDetectorsTextCardSaid : Prop := Claim7.holds Tryd.pinned (.plain (OpenSpec.ofChange fnExactDetectorsTextSpec)) fnExactDetectorsTextCard

/-- THE TIED CARD OF 'laws.FnExactRosterText'. -/
def fnExactRosterTextCard : Claim7 := { stood := { row := fnExactRosterTextRow, standIns := [], harness := (true, "3ead0470a8978f28df417df2f21d2f4f9944c2434e1c8a0785672c8e879742a9"), looks := false }, kinds := [], alts := [], laidByText := true, laidKinds := [.data, .data, .data], laidTests := true, laidLooks := .later }
def FnExactRosterTextCardSaid : Prop := Claim7.holds Tryd.pinned (.plain (OpenSpec.ofChange fnExactRosterTextSpec)) fnExactRosterTextCard

/-- THE TIED CARD OF 'laws.FnDetectors'. -/
def fnDetectorsCard : Claim7 := { stood := { row := fnDetectorsRow, standIns := [], harness := (true, "3ead0470a8978f28df417df2f21d2f4f9944c2434e1c8a0785672c8e879742a9"), looks := false }, kinds := [], alts := [], laidByText := true, laidKinds := [.data, .data, .data], laidTests := true, laidLooks := .later }
def FnDetectorsCardSaid : Prop := Claim7.holds Tryd.pinned (.plain (OpenSpec.ofChange fnDetectorsSpec)) fnDetectorsCard

/-- THE TIED CARD OF 'laws.FnLoads'. -/
def fnLoadsCard : Claim7 := { stood := { row := fnLoadsRow, standIns := [], harness := (true, "3ead0470a8978f28df417df2f21d2f4f9944c2434e1c8a0785672c8e879742a9"), looks := false }, kinds := [], alts := [], laidByText := true, laidKinds := [.data, .data, .data], laidTests := true, laidLooks := .later }
def FnLoadsCardSaid : Prop := Claim7.holds Tryd.pinned (.plain (OpenSpec.ofChange fnLoadsSpec)) fnLoadsCard

/-- THE TIED CARD OF 'laws.FnDebriefs'. -/
def fnDebriefsCard : Claim7 := { stood := { row := fnDebriefsRow, standIns := [], harness := (true, "3ead0470a8978f28df417df2f21d2f4f9944c2434e1c8a0785672c8e879742a9"), looks := false }, kinds := [], alts := [], laidByText := true, laidKinds := [.data, .data, .data], laidTests := true, laidLooks := .later }
def FnDebriefsCardSaid : Prop := Claim7.holds Tryd.pinned (.plain (OpenSpec.ofChange fnDebriefsSpec)) fnDebriefsCard

/-- THE TIED CARD OF 'laws.FnShifts'. -/
def fnShiftsCard : Claim7 := { stood := { row := fnShiftsRow, standIns := [], harness := (true, "3ead0470a8978f28df417df2f21d2f4f9944c2434e1c8a0785672c8e879742a9"), looks := false }, kinds := [], alts := [], laidByText := true, laidKinds := [.data, .data, .data], laidTests := true, laidLooks := .later }
def FnShiftsCardSaid : Prop := Claim7.holds Tryd.pinned (.plain (OpenSpec.ofChange fnShiftsSpec)) fnShiftsCard

/-- THE SECOND FORM's CARD OF 'laws.FnExactTurnoutsText'. -/
def fnExactTurnoutsTextUptoCard : Claim7 := { stood := { row := fnExactTurnoutsTextUptoRow, standIns := [], harness := (true, "3ead0470a8978f28df417df2f21d2f4f9944c2434e1c8a0785672c8e879742a9"), looks := false }, kinds := [], alts := [], laidByText := true, laidKinds := [.data, .data, .data], laidTests := true, laidLooks := .later }
def FnExactTurnoutsTextUptoCardSaid : Prop := Claim7.holds Tryd.pinned (.plain (OpenSpec.upto fnExactTurnoutsTextSpec)) fnExactTurnoutsTextUptoCard

/-- THE SECOND FORM's CARD OF 'laws.FnExactDetectorsText'. -/
def fnExactDetectorsTextUptoCard : Claim7 := { stood := { row := fnExactDetectorsTextUptoRow, standIns := [], harness := (true, "3ead0470a8978f28df417df2f21d2f4f9944c2434e1c8a0785672c8e879742a9"), looks := false }, kinds := [], alts := [], laidByText := true, laidKinds := [.data, .data, .data], laidTests := true, laidLooks := .later }
def FnExactDetectorsTextUptoCardSaid : Prop := Claim7.holds Tryd.pinned (.plain (OpenSpec.upto fnExactDetectorsTextSpec)) fnExactDetectorsTextUptoCard

/-- THE SECOND FORM's CARD OF 'laws.FnExactRosterText'. -/
def fnExactRosterTextUptoCard : Claim7 := { stood := { row := fnExactRosterTextUptoRow, standIns := [], harness := (true, "3ead0470a8978f28df417df2f21d2f4f9944c2434e1c8a0785672c8e879742a9"), looks := false }, kinds := [], alts := [], laidByText := true, laidKinds := [.data, .data, .data], laidTests := true, laidLooks := .later }
def FnExactRosterTextUptoCardSaid : Prop := Claim7.holds Tryd.pinned (.plain (OpenSpec.upto fnExactRosterTextSpec)) fnExactRosterTextUptoCard

/-- THE SECOND FORM's CARD OF 'laws.FnDetectors'. -/
def fnDetectorsUptoCard : Claim7 := { stood := { row := fnDetectorsUptoRow, standIns := [], harness := (true, "3ead0470a8978f28df417df2f21d2f4f9944c2434e1c8a0785672c8e879742a9"), looks := false }, kinds := [], alts := [], laidByText := true, laidKinds := [.data, .data, .data], laidTests := true, laidLooks := .later }
def FnDetectorsUptoCardSaid : Prop := Claim7.holds Tryd.pinned (.plain (OpenSpec.upto fnDetectorsSpec)) fnDetectorsUptoCard

/-- THE SECOND FORM's CARD OF 'laws.FnLoads'. -/
def fnLoadsUptoCard : Claim7 := { stood := { row := fnLoadsUptoRow, standIns := [], harness := (true, "3ead0470a8978f28df417df2f21d2f4f9944c2434e1c8a0785672c8e879742a9"), looks := false }, kinds := [], alts := [], laidByText := true, laidKinds := [.data, .data, .data], laidTests := true, laidLooks := .later }
def FnLoadsUptoCardSaid : Prop := Claim7.holds Tryd.pinned (.plain (OpenSpec.upto fnLoadsSpec)) fnLoadsUptoCard

/-- THE SECOND FORM's CARD OF 'laws.FnDebriefs'. -/
def fnDebriefsUptoCard : Claim7 := { stood := { row := fnDebriefsUptoRow, standIns := [], harness := (true, "3ead0470a8978f28df417df2f21d2f4f9944c2434e1c8a0785672c8e879742a9"), looks := false }, kinds := [], alts := [], laidByText := true, laidKinds := [.data, .data, .data], laidTests := true, laidLooks := .later }
def FnDebriefsUptoCardSaid : Prop := Claim7.holds Tryd.pinned (.plain (OpenSpec.upto fnDebriefsSpec)) fnDebriefsUptoCard

/-- THE SECOND FORM's CARD OF 'laws.FnShifts'. -/
def fnShiftsUptoCard : Claim7 := { stood := { row := fnShiftsUptoRow, standIns := [], harness := (true, "3ead0470a8978f28df417df2f21d2f4f9944c2434e1c8a0785672c8e879742a9"), looks := false }, kinds := [], alts := [], laidByText := true, laidKinds := [.data, .data, .data], laidTests := true, laidLooks := .later }
def FnShiftsUptoCardSaid : Prop := Claim7.holds Tryd.pinned (.plain (OpenSpec.upto fnShiftsSpec)) fnShiftsUptoCard
end Rows
end Go.Proofs.YtmlicajgbgjphaaDoor
