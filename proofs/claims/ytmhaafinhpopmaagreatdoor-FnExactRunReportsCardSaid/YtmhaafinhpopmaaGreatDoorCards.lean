/-
  DERIVED. GIVEN WITH THE SEED: THE CARDS: each row of YtmhaafinhpopmaaGreatDoorRows.lean that lists a variable, with what it lists TIED to the program's text (the seventh form; the later family's looks); each row that meets fmt, with fmt's text TOLD by the authors' own Lean function (tested against real Go, not proved from fmt's source: count such statements apart). THE CARD IS WHAT COUNTS. Prove the row's statement (the work); the ties are given (YtmhaafinhpopmaaGreatDoorTie.lean); close each card by the builder's one call (the guide's Derived/Test/ToyasCard.lean, 'card_holds'). Laid BY PROGRAM, IN A SANDBOX (cutbox-door.mjs). By AI agents, Wed Nov 11 2026. No macro, syntax, notation, axiom, sorry.
-/
import Derived.Test.YtmhaafinhpopmaaGreatDoorRows
import GoSem.ClaimSeven
namespace Go.Proofs.YtmhaafinhpopmaaGreatDoor
namespace Rows

/-- THE TIED CARD OF 'laws.FnCalls'. -/
def fnCallsCard : Claim7 := { stood := { row := fnCallsRow, standIns := [], harness := (true, "a60f6cf2b6384377d04ff55239d211599ef512fbe39813f7f94041a0941bcb2b"), looks := true }, kinds := [], alts := [], laidByText := true, laidKinds := [.data, .data, .data, .data, .sentinel, .sentinel, .pinned], laidTests := true, laidLooks := .later }
def FnCallsCardSaid : Prop := Claim7.holds Tryz.pinned (.plain (OpenSpec.ofChange fnCallsSpec)) fnCallsCard

/-- THE TIED CARD OF 'laws.FnExactRunReports'. -/
def fnExactRunReportsCard : Claim7 := { stood := { row := fnExactRunReportsRow, standIns := [], harness := (true, "a60f6cf2b6384377d04ff55239d211599ef512fbe39813f7f94041a0941bcb2b"), looks := true }, kinds := [], alts := [], laidByText := true, laidKinds := [.data, .data, .data, .sentinel, .sentinel], laidTests := true, laidLooks := .later }
def FnExactRunReportsCardSaid : Prop := Claim7.holds Tryz.pinned (.plain (OpenSpec.ofChange fnExactRunReportsSpec)) fnExactRunReportsCard

/-- THE SECOND FORM's CARD OF 'laws.FnCalls'. -/
def fnCallsUptoCard : Claim7 := { stood := { row := fnCallsUptoRow, standIns := [], harness := (true, "a60f6cf2b6384377d04ff55239d211599ef512fbe39813f7f94041a0941bcb2b"), looks := true }, kinds := [], alts := [], laidByText := true, laidKinds := [.data, .data, .data, .data, .sentinel, .sentinel, .pinned], laidTests := true, laidLooks := .later }
def FnCallsUptoCardSaid : Prop := Claim7.holds Tryz.pinned (.plain (OpenSpec.upto fnCallsSpec)) fnCallsUptoCard

/-- THE SECOND FORM's CARD OF 'laws.FnExactRunReports'. -/
def fnExactRunReportsUptoCard : Claim7 := { stood := { row := fnExactRunReportsUptoRow, standIns := [], harness := (true, "a60f6cf2b6384377d04ff55239d211599ef512fbe39813f7f94041a0941bcb2b"), looks := true }, kinds := [], alts := [], laidByText := true, laidKinds := [.data, .data, .data, .sentinel, .sentinel], laidTests := true, laidLooks := .later }
def FnExactRunReportsUptoCardSaid : Prop := Claim7.holds Tryz.pinned (.plain (OpenSpec.upto fnExactRunReportsSpec)) fnExactRunReportsUptoCard
end Rows
end Go.Proofs.YtmhaafinhpopmaaGreatDoor
