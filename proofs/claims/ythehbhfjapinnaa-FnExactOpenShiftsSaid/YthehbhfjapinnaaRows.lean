/-
  No cell of these rows narrows 'for every input' (looked for: loops, veiled, ifaces, maps, wideKeys, modest, calm, conditions, laid).
  DERIVED. THE GIVEN ROWS OF THIS SEAT. 7 by the template 'for every input the law returns true; each argument reads behind the call as it read before'; 0 by the template 'total and deterministic' (their statements: YthehbhfjapinnaaTotals.lean).
  GIVEN WITH THE SEED: the statements are not yours to turn. If you find one false, say at which input.
  Laid BY PROGRAM, IN A SANDBOX (cutbox-rows.mjs): the forced cells as the released guide's own fill.sh prints them over the translation 5e5ea4d8e868550b… (all of the seat's roots in one cut). By AI agents, Wed Nov 11 2026. No macro, syntax, notation, axiom, sorry.
-/
import Derived.Test.YthehbhfjapinnaaChecked
import GoSem.Claim
import GoSem.ClaimJoined
import GoSem.ClaimMapViews
import Derived.JoinedTies
import Derived.KernelRfl
namespace Go.Proofs.Ythehbhfjapinnaa
/- THE CELL 'sum', in the pinned program and in every row, IS THE sha256 OF THE DUMP (.gsa) THAT YthehbhfjapinnaaProg.lean LOADS. Nothing in Lean hashes anything: it is a label: what it is worth is what the hold of that sum in a sandbox is worth. -/
noncomputable def Try.pinned : Pinned := { name := "ythehbhfjapinnaa", sum := "5e5ea4d8e868550b1c26c283f382004b6131144a5c34dd24b94291a64333bcff", checked := Try.checked }
namespace Rows
def none {H : Type} : Left H := { results := [], args := [] }

/-- 'laws.FnExactIsDuty': WHATEVER THE INPUT: true; the input reads as it did. -/
def fnExactIsDutySpec : ChangeSpec := { name := "fnExactIsDuty", fn := fun _ => fun
  | [d] => { results := [.lit (.bool true)], args := [d] }
  | _ => none }
def fnExactIsDutyRow : OpenClaim := { program := "ythehbhfjapinnaa", sum := "5e5ea4d8e868550b1c26c283f382004b6131144a5c34dd24b94291a64333bcff", func := "loop.example/g01020/laws.FnExactIsDuty", spec := "fnExactIsDuty", apart := false }
def FnExactIsDutySaid : Prop := fnExactIsDutyRow.holds Try.pinned (OpenSpec.ofChange fnExactIsDutySpec)

/-- ITS FALSE NEIGHBOUR: 'it returns false'. Refute it at one input. -/
def fnExactIsDutyWrong : ChangeSpec := { name := "fnExactIsDuty", fn := fun _ => fun
  | [d] => { results := [.lit (.bool false)], args := [d] }
  | _ => none }
def FnExactIsDutyWrongFalsely : Prop := fnExactIsDutyRow.holds Try.pinned (OpenSpec.ofChange fnExactIsDutyWrong)

/-- 'laws.FnExactIsRoster': WHATEVER THE INPUT: true; the input reads as it did. -/
def fnExactIsRosterSpec : ChangeSpec := { name := "fnExactIsRoster", fn := fun _ => fun
  | [d1, d2] => { results := [.lit (.bool true)], args := [d1, d2] }
  | _ => none }
def fnExactIsRosterRow : OpenClaim := { program := "ythehbhfjapinnaa", sum := "5e5ea4d8e868550b1c26c283f382004b6131144a5c34dd24b94291a64333bcff", func := "loop.example/g01020/laws.FnExactIsRoster", spec := "fnExactIsRoster", apart := false }
def FnExactIsRosterSaid : Prop := fnExactIsRosterRow.holds Try.pinned (OpenSpec.ofChange fnExactIsRosterSpec)

/-- ITS FALSE NEIGHBOUR: 'it returns false'. Refute it at one input. -/
def fnExactIsRosterWrong : ChangeSpec := { name := "fnExactIsRoster", fn := fun _ => fun
  | [d1, d2] => { results := [.lit (.bool false)], args := [d1, d2] }
  | _ => none }
def FnExactIsRosterWrongFalsely : Prop := fnExactIsRosterRow.holds Try.pinned (OpenSpec.ofChange fnExactIsRosterWrong)

/-- 'laws.FnExactShiftsOf': WHATEVER THE INPUT: true; the input reads as it did. -/
def fnExactShiftsOfSpec : ChangeSpec := { name := "fnExactShiftsOf", fn := fun _ => fun
  | [d1, d2] => { results := [.lit (.bool true)], args := [d1, d2] }
  | _ => none }
def fnExactShiftsOfRow : OpenClaim := { program := "ythehbhfjapinnaa", sum := "5e5ea4d8e868550b1c26c283f382004b6131144a5c34dd24b94291a64333bcff", func := "loop.example/g01020/laws.FnExactShiftsOf", spec := "fnExactShiftsOf", apart := false }
def FnExactShiftsOfSaid : Prop := fnExactShiftsOfRow.holds Try.pinned (OpenSpec.ofChange fnExactShiftsOfSpec)

/-- ITS FALSE NEIGHBOUR: 'it returns false'. Refute it at one input. -/
def fnExactShiftsOfWrong : ChangeSpec := { name := "fnExactShiftsOf", fn := fun _ => fun
  | [d1, d2] => { results := [.lit (.bool false)], args := [d1, d2] }
  | _ => none }
def FnExactShiftsOfWrongFalsely : Prop := fnExactShiftsOfRow.holds Try.pinned (OpenSpec.ofChange fnExactShiftsOfWrong)

/-- 'laws.FnExactOpenShifts': WHATEVER THE INPUT: true; the input reads as it did. -/
def fnExactOpenShiftsSpec : ChangeSpec := { name := "fnExactOpenShifts", fn := fun _ => fun
  | [d1, d2, d3] => { results := [.lit (.bool true)], args := [d1, d2, d3] }
  | _ => none }
def fnExactOpenShiftsRow : OpenClaim := { program := "ythehbhfjapinnaa", sum := "5e5ea4d8e868550b1c26c283f382004b6131144a5c34dd24b94291a64333bcff", func := "loop.example/g01020/laws.FnExactOpenShifts", spec := "fnExactOpenShifts", apart := false }
def FnExactOpenShiftsSaid : Prop := fnExactOpenShiftsRow.holds Try.pinned (OpenSpec.ofChange fnExactOpenShiftsSpec)

/-- ITS FALSE NEIGHBOUR: 'it returns false'. Refute it at one input. -/
def fnExactOpenShiftsWrong : ChangeSpec := { name := "fnExactOpenShifts", fn := fun _ => fun
  | [d1, d2, d3] => { results := [.lit (.bool false)], args := [d1, d2, d3] }
  | _ => none }
def FnExactOpenShiftsWrongFalsely : Prop := fnExactOpenShiftsRow.holds Try.pinned (OpenSpec.ofChange fnExactOpenShiftsWrong)

/-- 'laws.FnExactAreTurnouts': WHATEVER THE INPUT: true; the input reads as it did. -/
def fnExactAreTurnoutsSpec : ChangeSpec := { name := "fnExactAreTurnouts", fn := fun _ => fun
  | [d] => { results := [.lit (.bool true)], args := [d] }
  | _ => none }
def fnExactAreTurnoutsRow : OpenClaim := { program := "ythehbhfjapinnaa", sum := "5e5ea4d8e868550b1c26c283f382004b6131144a5c34dd24b94291a64333bcff", func := "loop.example/g01020/laws.FnExactAreTurnouts", spec := "fnExactAreTurnouts", apart := false }
def FnExactAreTurnoutsSaid : Prop := fnExactAreTurnoutsRow.holds Try.pinned (OpenSpec.ofChange fnExactAreTurnoutsSpec)

/-- ITS FALSE NEIGHBOUR: 'it returns false'. Refute it at one input. -/
def fnExactAreTurnoutsWrong : ChangeSpec := { name := "fnExactAreTurnouts", fn := fun _ => fun
  | [d] => { results := [.lit (.bool false)], args := [d] }
  | _ => none }
def FnExactAreTurnoutsWrongFalsely : Prop := fnExactAreTurnoutsRow.holds Try.pinned (OpenSpec.ofChange fnExactAreTurnoutsWrong)

/-- 'laws.FnExactSpread': WHATEVER THE INPUT: true; the input reads as it did. -/
def fnExactSpreadSpec : ChangeSpec := { name := "fnExactSpread", fn := fun _ => fun
  | [d1, d2] => { results := [.lit (.bool true)], args := [d1, d2] }
  | _ => none }
def fnExactSpreadRow : OpenClaim := { program := "ythehbhfjapinnaa", sum := "5e5ea4d8e868550b1c26c283f382004b6131144a5c34dd24b94291a64333bcff", func := "loop.example/g01020/laws.FnExactSpread", spec := "fnExactSpread", apart := false }
def FnExactSpreadSaid : Prop := fnExactSpreadRow.holds Try.pinned (OpenSpec.ofChange fnExactSpreadSpec)

/-- ITS FALSE NEIGHBOUR: 'it returns false'. Refute it at one input. -/
def fnExactSpreadWrong : ChangeSpec := { name := "fnExactSpread", fn := fun _ => fun
  | [d1, d2] => { results := [.lit (.bool false)], args := [d1, d2] }
  | _ => none }
def FnExactSpreadWrongFalsely : Prop := fnExactSpreadRow.holds Try.pinned (OpenSpec.ofChange fnExactSpreadWrong)

/-- 'laws.FnExactJoinScripts': WHATEVER THE INPUT: true; the input reads as it did. -/
def fnExactJoinScriptsSpec : ChangeSpec := { name := "fnExactJoinScripts", fn := fun _ => fun
  | [d1, d2] => { results := [.lit (.bool true)], args := [d1, d2] }
  | _ => none }
def fnExactJoinScriptsRow : OpenClaim := { program := "ythehbhfjapinnaa", sum := "5e5ea4d8e868550b1c26c283f382004b6131144a5c34dd24b94291a64333bcff", func := "loop.example/g01020/laws.FnExactJoinScripts", spec := "fnExactJoinScripts", inPlace := ["internal/bytealg.CountString", "internal/bytealg.IndexByteString", "internal/bytealg.IndexString"], named := ["internal/bytealg.MaxLen"], apart := false }
def FnExactJoinScriptsSaid : Prop := fnExactJoinScriptsRow.holds Try.pinned (OpenSpec.ofChange fnExactJoinScriptsSpec)

/-- ITS FALSE NEIGHBOUR: 'it returns false'. Refute it at one input. -/
def fnExactJoinScriptsWrong : ChangeSpec := { name := "fnExactJoinScripts", fn := fun _ => fun
  | [d1, d2] => { results := [.lit (.bool false)], args := [d1, d2] }
  | _ => none }
def FnExactJoinScriptsWrongFalsely : Prop := fnExactJoinScriptsRow.holds Try.pinned (OpenSpec.ofChange fnExactJoinScriptsWrong)

/- THE SECOND FORM. 'bulk': how many values and letters a reading holds, each counted each time it is reached (what is shared counts as often as it is met; a slice's spare places count too). A statement '..UptoSaid' is the law's where the arguments, and the package variables that the reading takes, are together of bulk at most 1048576: NARROWER than '..Said'. Prove '..Said' where nothing that the law and all that it calls make is longer than what came in: it says more and counts as full. Else prove '..UptoSaid'. A law counts once. -/
mutual
def uptoBulk {H : Type} : DataW H → Nat
  | .lit (.string bytes) => bytes.length + 1
  | .lit _ => 1
  | .nil => 1
  | .ptr d => uptoBulk d + 1
  | .slice elems spare => uptoBulkAll elems + uptoBulkAll spare + 1
  | .agg parts => uptoBulkAll parts + 1
  | .iface _ d => uptoBulk d + 1
  | .map entries => uptoBulkEntries entries + 1
  | .held _ => 1
def uptoBulkAll {H : Type} : List (DataW H) → Nat
  | [] => 0
  | d :: r => uptoBulk d + uptoBulkAll r
def uptoBulkEntries {H : Type} : List (Lit × DataW H) → Nat
  | [] => 0
  | x :: r => uptoBulkEntry x + uptoBulkEntries r
def uptoBulkEntry {H : Type} : Lit × DataW H → Nat
  | (.string bytes, d) => bytes.length + uptoBulk d + 1
  | (_, d) => uptoBulk d + 1
 end
def uptoSmall : (H : Type) → List (DataW H) → Bool := fun _ ds => decide (uptoBulkAll ds ≤ 1048576)
def OpenSpec.upto (s : _root_.Go.ChangeSpec) : _root_.Go.OpenSpec := { _root_.Go.OpenSpec.ofChange s with cond := some uptoSmall }

/-- 'laws.FnExactIsDuty', WHERE WHAT IT READS IS OF BULK AT MOST 1048576: true; the input reads as it did. -/
def fnExactIsDutyUptoRow : OpenClaim := { program := "ythehbhfjapinnaa", sum := "5e5ea4d8e868550b1c26c283f382004b6131144a5c34dd24b94291a64333bcff", func := "loop.example/g01020/laws.FnExactIsDuty", spec := "fnExactIsDuty", apart := false, narrowed := true }
def FnExactIsDutyUptoSaid : Prop := fnExactIsDutyUptoRow.holds Try.pinned (OpenSpec.upto fnExactIsDutySpec)

/-- 'laws.FnExactIsRoster', WHERE WHAT IT READS IS OF BULK AT MOST 1048576: true; the input reads as it did. -/
def fnExactIsRosterUptoRow : OpenClaim := { program := "ythehbhfjapinnaa", sum := "5e5ea4d8e868550b1c26c283f382004b6131144a5c34dd24b94291a64333bcff", func := "loop.example/g01020/laws.FnExactIsRoster", spec := "fnExactIsRoster", apart := false, narrowed := true }
def FnExactIsRosterUptoSaid : Prop := fnExactIsRosterUptoRow.holds Try.pinned (OpenSpec.upto fnExactIsRosterSpec)

/-- 'laws.FnExactShiftsOf', WHERE WHAT IT READS IS OF BULK AT MOST 1048576: true; the input reads as it did. -/
def fnExactShiftsOfUptoRow : OpenClaim := { program := "ythehbhfjapinnaa", sum := "5e5ea4d8e868550b1c26c283f382004b6131144a5c34dd24b94291a64333bcff", func := "loop.example/g01020/laws.FnExactShiftsOf", spec := "fnExactShiftsOf", apart := false, narrowed := true }
def FnExactShiftsOfUptoSaid : Prop := fnExactShiftsOfUptoRow.holds Try.pinned (OpenSpec.upto fnExactShiftsOfSpec)

/-- 'laws.FnExactOpenShifts', WHERE WHAT IT READS IS OF BULK AT MOST 1048576: true; the input reads as it did. -/
def fnExactOpenShiftsUptoRow : OpenClaim := { program := "ythehbhfjapinnaa", sum := "5e5ea4d8e868550b1c26c283f382004b6131144a5c34dd24b94291a64333bcff", func := "loop.example/g01020/laws.FnExactOpenShifts", spec := "fnExactOpenShifts", apart := false, narrowed := true }
def FnExactOpenShiftsUptoSaid : Prop := fnExactOpenShiftsUptoRow.holds Try.pinned (OpenSpec.upto fnExactOpenShiftsSpec)

/-- 'laws.FnExactAreTurnouts', WHERE WHAT IT READS IS OF BULK AT MOST 1048576: true; the input reads as it did. -/
def fnExactAreTurnoutsUptoRow : OpenClaim := { program := "ythehbhfjapinnaa", sum := "5e5ea4d8e868550b1c26c283f382004b6131144a5c34dd24b94291a64333bcff", func := "loop.example/g01020/laws.FnExactAreTurnouts", spec := "fnExactAreTurnouts", apart := false, narrowed := true }
def FnExactAreTurnoutsUptoSaid : Prop := fnExactAreTurnoutsUptoRow.holds Try.pinned (OpenSpec.upto fnExactAreTurnoutsSpec)

/-- 'laws.FnExactSpread', WHERE WHAT IT READS IS OF BULK AT MOST 1048576: true; the input reads as it did. -/
def fnExactSpreadUptoRow : OpenClaim := { program := "ythehbhfjapinnaa", sum := "5e5ea4d8e868550b1c26c283f382004b6131144a5c34dd24b94291a64333bcff", func := "loop.example/g01020/laws.FnExactSpread", spec := "fnExactSpread", apart := false, narrowed := true }
def FnExactSpreadUptoSaid : Prop := fnExactSpreadUptoRow.holds Try.pinned (OpenSpec.upto fnExactSpreadSpec)

/-- 'laws.FnExactJoinScripts', WHERE WHAT IT READS IS OF BULK AT MOST 1048576: true; the input reads as it did. -/
def fnExactJoinScriptsUptoRow : OpenClaim := { program := "ythehbhfjapinnaa", sum := "5e5ea4d8e868550b1c26c283f382004b6131144a5c34dd24b94291a64333bcff", func := "loop.example/g01020/laws.FnExactJoinScripts", spec := "fnExactJoinScripts", inPlace := ["internal/bytealg.CountString", "internal/bytealg.IndexByteString", "internal/bytealg.IndexString"], named := ["internal/bytealg.MaxLen"], apart := false, narrowed := true }
def FnExactJoinScriptsUptoSaid : Prop := fnExactJoinScriptsUptoRow.holds Try.pinned (OpenSpec.upto fnExactJoinScriptsSpec)

end Rows
end Go.Proofs.Ythehbhfjapinnaa
