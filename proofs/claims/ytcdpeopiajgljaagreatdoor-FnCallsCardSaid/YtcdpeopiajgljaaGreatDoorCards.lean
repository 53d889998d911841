/-
  DERIVED. GIVEN WITH THE SEED: THE CARDS: each row of YtcdpeopiajgljaaGreatDoorRows.lean that lists a variable, with what it lists TIED to the program's text (the seventh form; the later family's looks); each row that meets fmt, with fmt's text TOLD by the authors' own Lean function (tested against real Go, not proved from fmt's source: count such statements apart). THE CARD IS WHAT COUNTS. Prove the row's statement (the work); the ties are given (YtcdpeopiajgljaaGreatDoorTie.lean); close each card by the builder's one call (the guide's Derived/Test/ToyasCard.lean, 'card_holds'). Laid BY PROGRAM, IN A SANDBOX (cutbox-door.mjs). By AI agents, Wed Nov 11 2026. No macro, syntax, notation, axiom, sorry.
-/
import Derived.Test.YtcdpeopiajgljaaGreatDoorRows
import GoSem.ClaimSeven
namespace Go.Proofs.YtcdpeopiajgljaaGreatDoor
namespace Rows

/-- THE TIED CARD OF 'laws.FnCalls'. -/
def fnCallsCard : Claim7 := { stood := { row := fnCallsRow, standIns := [], harness := (true, "7f4b2e39115cb20ceb8a77a016f2d8a379676094fa2d8e0f20b32afdc50f6486"), looks := true }, kinds := [], alts := [], laidByText := true, laidKinds := [.data, .data, .data, .data, .sentinel, .sentinel, .pinned], laidTests := true, laidLooks := .later }
def FnCallsCardSaid : Prop := Claim7.holds Tryz.pinned (.plain (OpenSpec.ofChange fnCallsSpec)) fnCallsCard

/-- THE SECOND FORM's CARD OF 'laws.FnCalls'. -/
def fnCallsUptoCard : Claim7 := { stood := { row := fnCallsUptoRow, standIns := [], harness := (true, "7f4b2e39115cb20ceb8a77a016f2d8a379676094fa2d8e0f20b32afdc50f6486"), looks := true }, kinds := [], alts := [], laidByText := true, laidKinds := [.data, .data, .data, .data, .sentinel, .sentinel, .pinned], laidTests := true, laidLooks := .later }
def FnCallsUptoCardSaid : Prop := Claim7.holds Tryz.pinned (.plain (OpenSpec.upto fnCallsSpec)) fnCallsUptoCard
end Rows
end Go.Proofs.YtcdpeopiajgljaaGreatDoor
