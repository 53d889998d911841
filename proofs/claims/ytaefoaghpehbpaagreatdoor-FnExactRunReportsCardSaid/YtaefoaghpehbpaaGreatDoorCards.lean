/-
  DERIVED. GIVEN WITH THE SEED: THE CARDS: each row of YtaefoaghpehbpaaGreatDoorRows.lean that lists a variable, with what it lists TIED to the program's text (the seventh form; the later family's looks); each row that meets fmt, with fmt's text TOLD by the authors' own Lean function (tested against real Go, not proved from fmt's source: count such statements apart). THE CARD IS WHAT COUNTS. Prove the row's statement (the work); the ties are given (YtaefoaghpehbpaaGreatDoorTie.lean); close each card by the builder's one call (the guide's Derived/Test/ToyasCard.lean, 'card_holds'). Laid BY PROGRAM, IN A SANDBOX (cutbox-door.mjs). By AI agents, Wed Nov 11 2026. No macro, syntax, notation, axiom, sorry.
-/
import Derived.Test.YtaefoaghpehbpaaGreatDoorRows
import GoSem.ClaimSeven
namespace Go.Proofs.YtaefoaghpehbpaaGreatDoor
namespace Rows

/-- THE TIED CARD OF 'laws.FnExactControlText'. -/
def fnExactControlTextCard : Claim7 := { stood := { row := fnExactControlTextRow, standIns := [], harness := (true, "4fd9b87c8d2b8ff4ccde554464f44b932da94b0ba2b673b4988722904399dc4d"), looks := true }, kinds := [], alts := [], laidByText := true, laidKinds := [.data, .data, .data], laidTests := true, laidLooks := .later }
def FnExactControlTextCardSaid : Prop := Claim7.holds Tryz.pinned (.plain (OpenSpec.ofChange fnExactControlTextSpec)) fnExactControlTextCard

/-- THE TIED CARD OF 'laws.FnExactRunReports'. -/
def fnExactRunReportsCard : Claim7 := { stood := { row := fnExactRunReportsRow, standIns := [], harness := (true, "4fd9b87c8d2b8ff4ccde554464f44b932da94b0ba2b673b4988722904399dc4d"), looks := true }, kinds := [], alts := [], laidByText := true, laidKinds := [.data, .data, .data, .sentinel, .sentinel], laidTests := true, laidLooks := .later }
def FnExactRunReportsCardSaid : Prop := Claim7.holds Tryz.pinned (.plain (OpenSpec.ofChange fnExactRunReportsSpec)) fnExactRunReportsCard

/-- THE TIED CARD OF 'laws.FnReports'. -/
def fnReportsCard : Claim7 := { stood := { row := fnReportsRow, standIns := [], harness := (true, "4fd9b87c8d2b8ff4ccde554464f44b932da94b0ba2b673b4988722904399dc4d"), looks := true }, kinds := [], alts := [], laidByText := true, laidKinds := [.data, .data, .data, .sentinel, .sentinel], laidTests := true, laidLooks := .later }
def FnReportsCardSaid : Prop := Claim7.holds Tryz.pinned (.plain (OpenSpec.ofChange fnReportsSpec)) fnReportsCard

/-- THE SECOND FORM's CARD OF 'laws.FnExactControlText'. -/
def fnExactControlTextUptoCard : Claim7 := { stood := { row := fnExactControlTextUptoRow, standIns := [], harness := (true, "4fd9b87c8d2b8ff4ccde554464f44b932da94b0ba2b673b4988722904399dc4d"), looks := true }, kinds := [], alts := [], laidByText := true, laidKinds := [.data, .data, .data], laidTests := true, laidLooks := .later }
def FnExactControlTextUptoCardSaid : Prop := Claim7.holds Tryz.pinned (.plain (OpenSpec.upto fnExactControlTextSpec)) fnExactControlTextUptoCard

/-- THE SECOND FORM's CARD OF 'laws.FnExactRunReports'. -/
def fnExactRunReportsUptoCard : Claim7 := { stood := { row := fnExactRunReportsUptoRow, standIns := [], harness := (true, "4fd9b87c8d2b8ff4ccde554464f44b932da94b0ba2b673b4988722904399dc4d"), looks := true }, kinds := [], alts := [], laidByText := true, laidKinds := [.data, .data, .data, .sentinel, .sentinel], laidTests := true, laidLooks := .later }
def FnExactRunReportsUptoCardSaid : Prop := Claim7.holds Tryz.pinned (.plain (OpenSpec.upto fnExactRunReportsSpec)) fnExactRunReportsUptoCard

/-- THE SECOND FORM's CARD OF 'laws.FnReports'. -/
def fnReportsUptoCard : Claim7 := { stood := { row := fnReportsUptoRow, standIns := [], harness := (true, "4fd9b87c8d2b8ff4ccde554464f44b932da94b0ba2b673b4988722904399dc4d"), looks := true }, kinds := [], alts := [], laidByText := true, laidKinds := [.data, .data, .data, .sentinel, .sentinel], laidTests := true, laidLooks := .later }
def FnReportsUptoCardSaid : Prop := Claim7.holds Tryz.pinned (.plain (OpenSpec.upto fnReportsSpec)) fnReportsUptoCard
end Rows
end Go.Proofs.YtaefoaghpehbpaaGreatDoor
