/-
  No cell of these rows narrows 'for every input' (looked for: loops, veiled, ifaces, maps, wideKeys, modest, calm, conditions, laid).
  DERIVED. THE GIVEN ROWS OF THIS SEAT. 12 by the template 'for every input the law returns true; each argument reads behind the call as it read before'; 0 by the template 'total and deterministic' (their statements: YtciapcamhocmcaaTotals.lean).
  GIVEN WITH THE SEED: the statements are not yours to turn. If you find one false, say at which input.
  Laid BY PROGRAM, IN A SANDBOX (cutbox-rows.mjs): the forced cells as the released guide's own fill.sh prints them over the translation 2d1d8d1267001e90… (all of the seat's roots in one cut). By AI agents, Wed Nov 11 2026. No macro, syntax, notation, axiom, sorry.
-/
import Derived.Test.YtciapcamhocmcaaChecked
import GoSem.Claim
import GoSem.ClaimJoined
import GoSem.ClaimMapViews
import Derived.JoinedTies
import Derived.KernelRfl
namespace Go.Proofs.Ytciapcamhocmcaa
/- THE CELL 'sum', in the pinned program and in every row, IS THE sha256 OF THE DUMP (.gsa) THAT YtciapcamhocmcaaProg.lean LOADS. Nothing in Lean hashes anything: it is a label: what it is worth is what the hold of that sum in a sandbox is worth. -/
noncomputable def Try.pinned : Pinned := { name := "ytciapcamhocmcaa", sum := "2d1d8d1267001e9000f89dda1395942a252ad298b3239e0ce6c7a85487012a70", checked := Try.checked }
namespace Rows
def none {H : Type} : Left H := { results := [], args := [] }

/-- 'laws.FnExactMeanTime': WHATEVER THE INPUT: true; the input reads as it did. -/
def fnExactMeanTimeSpec : ChangeSpec := { name := "fnExactMeanTime", fn := fun _ => fun
  | [d] => { results := [.lit (.bool true)], args := [d] }
  | _ => none }
def fnExactMeanTimeRow : OpenClaim := { program := "ytciapcamhocmcaa", sum := "2d1d8d1267001e9000f89dda1395942a252ad298b3239e0ce6c7a85487012a70", func := "loop.example/g01020/laws.FnExactMeanTime", spec := "fnExactMeanTime", apart := false }
def FnExactMeanTimeSaid : Prop := fnExactMeanTimeRow.holds Try.pinned (OpenSpec.ofChange fnExactMeanTimeSpec)

/-- ITS FALSE NEIGHBOUR: 'it returns false'. Refute it at one input. -/
def fnExactMeanTimeWrong : ChangeSpec := { name := "fnExactMeanTime", fn := fun _ => fun
  | [d] => { results := [.lit (.bool false)], args := [d] }
  | _ => none }
def FnExactMeanTimeWrongFalsely : Prop := fnExactMeanTimeRow.holds Try.pinned (OpenSpec.ofChange fnExactMeanTimeWrong)

/-- 'laws.FnExactShareInTime': WHATEVER THE INPUT: true; the input reads as it did. -/
def fnExactShareInTimeSpec : ChangeSpec := { name := "fnExactShareInTime", fn := fun _ => fun
  | [d1, d2] => { results := [.lit (.bool true)], args := [d1, d2] }
  | _ => none }
def fnExactShareInTimeRow : OpenClaim := { program := "ytciapcamhocmcaa", sum := "2d1d8d1267001e9000f89dda1395942a252ad298b3239e0ce6c7a85487012a70", func := "loop.example/g01020/laws.FnExactShareInTime", spec := "fnExactShareInTime", apart := false }
def FnExactShareInTimeSaid : Prop := fnExactShareInTimeRow.holds Try.pinned (OpenSpec.ofChange fnExactShareInTimeSpec)

/-- ITS FALSE NEIGHBOUR: 'it returns false'. Refute it at one input. -/
def fnExactShareInTimeWrong : ChangeSpec := { name := "fnExactShareInTime", fn := fun _ => fun
  | [d1, d2] => { results := [.lit (.bool false)], args := [d1, d2] }
  | _ => none }
def FnExactShareInTimeWrongFalsely : Prop := fnExactShareInTimeRow.holds Try.pinned (OpenSpec.ofChange fnExactShareInTimeWrong)

/-- 'laws.FnExactFirstBreach': WHATEVER THE INPUT: true; the input reads as it did. -/
def fnExactFirstBreachSpec : ChangeSpec := { name := "fnExactFirstBreach", fn := fun _ => fun
  | [d1, d2] => { results := [.lit (.bool true)], args := [d1, d2] }
  | _ => none }
def fnExactFirstBreachRow : OpenClaim := { program := "ytciapcamhocmcaa", sum := "2d1d8d1267001e9000f89dda1395942a252ad298b3239e0ce6c7a85487012a70", func := "loop.example/g01020/laws.FnExactFirstBreach", spec := "fnExactFirstBreach", apart := false }
def FnExactFirstBreachSaid : Prop := fnExactFirstBreachRow.holds Try.pinned (OpenSpec.ofChange fnExactFirstBreachSpec)

/-- ITS FALSE NEIGHBOUR: 'it returns false'. Refute it at one input. -/
def fnExactFirstBreachWrong : ChangeSpec := { name := "fnExactFirstBreach", fn := fun _ => fun
  | [d1, d2] => { results := [.lit (.bool false)], args := [d1, d2] }
  | _ => none }
def FnExactFirstBreachWrongFalsely : Prop := fnExactFirstBreachRow.holds Try.pinned (OpenSpec.ofChange fnExactFirstBreachWrong)

/-- 'laws.FnExactFirstArrival': WHATEVER THE INPUT: true; the input reads as it did. -/
def fnExactFirstArrivalSpec : ChangeSpec := { name := "fnExactFirstArrival", fn := fun _ => fun
  | [d1, d2] => { results := [.lit (.bool true)], args := [d1, d2] }
  | _ => none }
def fnExactFirstArrivalRow : OpenClaim := { program := "ytciapcamhocmcaa", sum := "2d1d8d1267001e9000f89dda1395942a252ad298b3239e0ce6c7a85487012a70", func := "loop.example/g01020/laws.FnExactFirstArrival", spec := "fnExactFirstArrival", apart := false }
def FnExactFirstArrivalSaid : Prop := fnExactFirstArrivalRow.holds Try.pinned (OpenSpec.ofChange fnExactFirstArrivalSpec)

/-- ITS FALSE NEIGHBOUR: 'it returns false'. Refute it at one input. -/
def fnExactFirstArrivalWrong : ChangeSpec := { name := "fnExactFirstArrival", fn := fun _ => fun
  | [d1, d2] => { results := [.lit (.bool false)], args := [d1, d2] }
  | _ => none }
def FnExactFirstArrivalWrongFalsely : Prop := fnExactFirstArrivalRow.holds Try.pinned (OpenSpec.ofChange fnExactFirstArrivalWrong)

/-- 'laws.FnExactKeepsRules': WHATEVER THE INPUT: true; the input reads as it did. -/
def fnExactKeepsRulesSpec : ChangeSpec := { name := "fnExactKeepsRules", fn := fun _ => fun
  | [d1, d2] => { results := [.lit (.bool true)], args := [d1, d2] }
  | _ => none }
def fnExactKeepsRulesRow : OpenClaim := { program := "ytciapcamhocmcaa", sum := "2d1d8d1267001e9000f89dda1395942a252ad298b3239e0ce6c7a85487012a70", func := "loop.example/g01020/laws.FnExactKeepsRules", spec := "fnExactKeepsRules", apart := false }
def FnExactKeepsRulesSaid : Prop := fnExactKeepsRulesRow.holds Try.pinned (OpenSpec.ofChange fnExactKeepsRulesSpec)

/-- ITS FALSE NEIGHBOUR: 'it returns false'. Refute it at one input. -/
def fnExactKeepsRulesWrong : ChangeSpec := { name := "fnExactKeepsRules", fn := fun _ => fun
  | [d1, d2] => { results := [.lit (.bool false)], args := [d1, d2] }
  | _ => none }
def FnExactKeepsRulesWrongFalsely : Prop := fnExactKeepsRulesRow.holds Try.pinned (OpenSpec.ofChange fnExactKeepsRulesWrong)

/-- 'laws.FnExactTimesOf': WHATEVER THE INPUT: true; the input reads as it did. -/
def fnExactTimesOfSpec : ChangeSpec := { name := "fnExactTimesOf", fn := fun _ => fun
  | [d] => { results := [.lit (.bool true)], args := [d] }
  | _ => none }
def fnExactTimesOfRow : OpenClaim := { program := "ytciapcamhocmcaa", sum := "2d1d8d1267001e9000f89dda1395942a252ad298b3239e0ce6c7a85487012a70", func := "loop.example/g01020/laws.FnExactTimesOf", spec := "fnExactTimesOf", apart := false }
def FnExactTimesOfSaid : Prop := fnExactTimesOfRow.holds Try.pinned (OpenSpec.ofChange fnExactTimesOfSpec)

/-- ITS FALSE NEIGHBOUR: 'it returns false'. Refute it at one input. -/
def fnExactTimesOfWrong : ChangeSpec := { name := "fnExactTimesOf", fn := fun _ => fun
  | [d] => { results := [.lit (.bool false)], args := [d] }
  | _ => none }
def FnExactTimesOfWrongFalsely : Prop := fnExactTimesOfRow.holds Try.pinned (OpenSpec.ofChange fnExactTimesOfWrong)

/-- 'laws.FnExactLateTurnouts': WHATEVER THE INPUT: true; the input reads as it did. -/
def fnExactLateTurnoutsSpec : ChangeSpec := { name := "fnExactLateTurnouts", fn := fun _ => fun
  | [d1, d2] => { results := [.lit (.bool true)], args := [d1, d2] }
  | _ => none }
def fnExactLateTurnoutsRow : OpenClaim := { program := "ytciapcamhocmcaa", sum := "2d1d8d1267001e9000f89dda1395942a252ad298b3239e0ce6c7a85487012a70", func := "loop.example/g01020/laws.FnExactLateTurnouts", spec := "fnExactLateTurnouts", apart := false }
def FnExactLateTurnoutsSaid : Prop := fnExactLateTurnoutsRow.holds Try.pinned (OpenSpec.ofChange fnExactLateTurnoutsSpec)

/-- ITS FALSE NEIGHBOUR: 'it returns false'. Refute it at one input. -/
def fnExactLateTurnoutsWrong : ChangeSpec := { name := "fnExactLateTurnouts", fn := fun _ => fun
  | [d1, d2] => { results := [.lit (.bool false)], args := [d1, d2] }
  | _ => none }
def FnExactLateTurnoutsWrongFalsely : Prop := fnExactLateTurnoutsRow.holds Try.pinned (OpenSpec.ofChange fnExactLateTurnoutsWrong)

/-- 'laws.FnExactFirstAlarm': WHATEVER THE INPUT: true; the input reads as it did. -/
def fnExactFirstAlarmSpec : ChangeSpec := { name := "fnExactFirstAlarm", fn := fun _ => fun
  | [d1, d2, d3] => { results := [.lit (.bool true)], args := [d1, d2, d3] }
  | _ => none }
def fnExactFirstAlarmRow : OpenClaim := { program := "ytciapcamhocmcaa", sum := "2d1d8d1267001e9000f89dda1395942a252ad298b3239e0ce6c7a85487012a70", func := "loop.example/g01020/laws.FnExactFirstAlarm", spec := "fnExactFirstAlarm", unfollowed := true, recurses := true, apart := false }
def FnExactFirstAlarmSaid : Prop := fnExactFirstAlarmRow.holds Try.pinned (OpenSpec.ofChange fnExactFirstAlarmSpec)

/-- ITS FALSE NEIGHBOUR: 'it returns false'. Refute it at one input. -/
def fnExactFirstAlarmWrong : ChangeSpec := { name := "fnExactFirstAlarm", fn := fun _ => fun
  | [d1, d2, d3] => { results := [.lit (.bool false)], args := [d1, d2, d3] }
  | _ => none }
def FnExactFirstAlarmWrongFalsely : Prop := fnExactFirstAlarmRow.holds Try.pinned (OpenSpec.ofChange fnExactFirstAlarmWrong)

/-- 'laws.FnExactBusyTwice': WHATEVER THE INPUT: true; the input reads as it did. -/
def fnExactBusyTwiceSpec : ChangeSpec := { name := "fnExactBusyTwice", fn := fun _ => fun
  | [d] => { results := [.lit (.bool true)], args := [d] }
  | _ => none }
def fnExactBusyTwiceRow : OpenClaim := { program := "ytciapcamhocmcaa", sum := "2d1d8d1267001e9000f89dda1395942a252ad298b3239e0ce6c7a85487012a70", func := "loop.example/g01020/laws.FnExactBusyTwice", spec := "fnExactBusyTwice", apart := false }
def FnExactBusyTwiceSaid : Prop := fnExactBusyTwiceRow.holds Try.pinned (OpenSpec.ofChange fnExactBusyTwiceSpec)

/-- ITS FALSE NEIGHBOUR: 'it returns false'. Refute it at one input. -/
def fnExactBusyTwiceWrong : ChangeSpec := { name := "fnExactBusyTwice", fn := fun _ => fun
  | [d] => { results := [.lit (.bool false)], args := [d] }
  | _ => none }
def FnExactBusyTwiceWrongFalsely : Prop := fnExactBusyTwiceRow.holds Try.pinned (OpenSpec.ofChange fnExactBusyTwiceWrong)

/-- 'laws.FnAsks': WHATEVER THE INPUT: true; the input reads as it did. -/
def fnAsksSpec : ChangeSpec := { name := "fnAsks", fn := fun _ => fun
  | [d1, d2] => { results := [.lit (.bool true)], args := [d1, d2] }
  | _ => none }
def fnAsksRow : OpenClaim := { program := "ytciapcamhocmcaa", sum := "2d1d8d1267001e9000f89dda1395942a252ad298b3239e0ce6c7a85487012a70", func := "loop.example/g01020/laws.FnAsks", spec := "fnAsks", unfollowed := true, recurses := true, apart := false }
def FnAsksSaid : Prop := fnAsksRow.holds Try.pinned (OpenSpec.ofChange fnAsksSpec)

/-- ITS FALSE NEIGHBOUR: 'it returns false'. Refute it at one input. -/
def fnAsksWrong : ChangeSpec := { name := "fnAsks", fn := fun _ => fun
  | [d1, d2] => { results := [.lit (.bool false)], args := [d1, d2] }
  | _ => none }
def FnAsksWrongFalsely : Prop := fnAsksRow.holds Try.pinned (OpenSpec.ofChange fnAsksWrong)

/-- 'laws.FnExactAlarmZones': WHATEVER THE INPUT: true; the input reads as it did. -/
def fnExactAlarmZonesSpec : ChangeSpec := { name := "fnExactAlarmZones", fn := fun _ => fun
  | [d1, d2, d3] => { results := [.lit (.bool true)], args := [d1, d2, d3] }
  | _ => none }
def fnExactAlarmZonesRow : OpenClaim := { program := "ytciapcamhocmcaa", sum := "2d1d8d1267001e9000f89dda1395942a252ad298b3239e0ce6c7a85487012a70", func := "loop.example/g01020/laws.FnExactAlarmZones", spec := "fnExactAlarmZones", unfollowed := true, recurses := true, apart := false }
def FnExactAlarmZonesSaid : Prop := fnExactAlarmZonesRow.holds Try.pinned (OpenSpec.ofChange fnExactAlarmZonesSpec)

/-- ITS FALSE NEIGHBOUR: 'it returns false'. Refute it at one input. -/
def fnExactAlarmZonesWrong : ChangeSpec := { name := "fnExactAlarmZones", fn := fun _ => fun
  | [d1, d2, d3] => { results := [.lit (.bool false)], args := [d1, d2, d3] }
  | _ => none }
def FnExactAlarmZonesWrongFalsely : Prop := fnExactAlarmZonesRow.holds Try.pinned (OpenSpec.ofChange fnExactAlarmZonesWrong)

/-- 'laws.FnExactFalseSignals': WHATEVER THE INPUT: true; the input reads as it did. -/
def fnExactFalseSignalsSpec : ChangeSpec := { name := "fnExactFalseSignals", fn := fun _ => fun
  | [d1, d2, d3] => { results := [.lit (.bool true)], args := [d1, d2, d3] }
  | _ => none }
def fnExactFalseSignalsRow : OpenClaim := { program := "ytciapcamhocmcaa", sum := "2d1d8d1267001e9000f89dda1395942a252ad298b3239e0ce6c7a85487012a70", func := "loop.example/g01020/laws.FnExactFalseSignals", spec := "fnExactFalseSignals", unfollowed := true, recurses := true, apart := false }
def FnExactFalseSignalsSaid : Prop := fnExactFalseSignalsRow.holds Try.pinned (OpenSpec.ofChange fnExactFalseSignalsSpec)

/-- ITS FALSE NEIGHBOUR: 'it returns false'. Refute it at one input. -/
def fnExactFalseSignalsWrong : ChangeSpec := { name := "fnExactFalseSignals", fn := fun _ => fun
  | [d1, d2, d3] => { results := [.lit (.bool false)], args := [d1, d2, d3] }
  | _ => none }
def FnExactFalseSignalsWrongFalsely : Prop := fnExactFalseSignalsRow.holds Try.pinned (OpenSpec.ofChange fnExactFalseSignalsWrong)

/- THE SECOND FORM. 'bulk': how many values and letters a reading holds, each counted each time it is reached (what is shared counts as often as it is met; a slice's spare places count too). A statement '..UptoSaid' is the law's where the arguments, and the package variables that the reading takes, are together of bulk at most 1048576: NARROWER than '..Said'. Prove '..Said' where nothing that the law and all that it calls make is longer than what came in: it says more and counts as full. Else prove '..UptoSaid'. A law counts once. -/
mutual
def uptoBulk {H : Type} : DataW H → Nat
  | .lit (.string bytes) => bytes.length + 1
  | .lit _ => 1
  | .nil => 1
  | .ptr d => uptoBulk d + 1
  | .slice elems spare => uptoBulkAll elems + uptoBulkAll spare + 1
  | .agg parts => uptoBulkAll parts + 1
  | .iface _ d => uptoBulk d + 1
  | .map entries => uptoBulkEntries entries + 1
  | .held _ => 1
def uptoBulkAll {H : Type} : List (DataW H) → Nat
  | [] => 0
  | d :: r => uptoBulk d + uptoBulkAll r
def uptoBulkEntries {H : Type} : List (Lit × DataW H) → Nat
  | [] => 0
  | x :: r => uptoBulkEntry x + uptoBulkEntries r
def uptoBulkEntry {H : Type} : Lit × DataW H → Nat
  | (.string bytes, d) => bytes.length + uptoBulk d + 1
  | (_, d) => uptoBulk d + 1
 end
def uptoSmall : (H : Type) → List (DataW H) → Bool := fun _ ds => decide (uptoBulkAll ds ≤ 1048576)
def OpenSpec.upto (s : _root_.Go.ChangeSpec) : _root_.Go.OpenSpec := { _root_.Go.OpenSpec.ofChange s with cond := some uptoSmall }

/-- 'laws.FnExactMeanTime', WHERE WHAT IT READS IS OF BULK AT MOST 1048576: true; the input reads as it did. -/
def fnExactMeanTimeUptoRow : OpenClaim := { program := "ytciapcamhocmcaa", sum := "2d1d8d1267001e9000f89dda1395942a252ad298b3239e0ce6c7a85487012a70", func := "loop.example/g01020/laws.FnExactMeanTime", spec := "fnExactMeanTime", apart := false, narrowed := true }
def FnExactMeanTimeUptoSaid : Prop := fnExactMeanTimeUptoRow.holds Try.pinned (OpenSpec.upto fnExactMeanTimeSpec)

/-- 'laws.FnExactShareInTime', WHERE WHAT IT READS IS OF BULK AT MOST 1048576: true; the input reads as it did. -/
def fnExactShareInTimeUptoRow : OpenClaim := { program := "ytciapcamhocmcaa", sum := "2d1d8d1267001e9000f89dda1395942a252ad298b3239e0ce6c7a85487012a70", func := "loop.example/g01020/laws.FnExactShareInTime", spec := "fnExactShareInTime", apart := false, narrowed := true }
def FnExactShareInTimeUptoSaid : Prop := fnExactShareInTimeUptoRow.holds Try.pinned (OpenSpec.upto fnExactShareInTimeSpec)

/-- 'laws.FnExactFirstBreach', WHERE WHAT IT READS IS OF BULK AT MOST 1048576: true; the input reads as it did. -/
def fnExactFirstBreachUptoRow : OpenClaim := { program := "ytciapcamhocmcaa", sum := "2d1d8d1267001e9000f89dda1395942a252ad298b3239e0ce6c7a85487012a70", func := "loop.example/g01020/laws.FnExactFirstBreach", spec := "fnExactFirstBreach", apart := false, narrowed := true }
def FnExactFirstBreachUptoSaid : Prop := fnExactFirstBreachUptoRow.holds Try.pinned (OpenSpec.upto fnExactFirstBreachSpec)

/-- 'laws.FnExactFirstArrival', WHERE WHAT IT READS IS OF BULK AT MOST 1048576: true; the input reads as it did. -/
def fnExactFirstArrivalUptoRow : OpenClaim := { program := "ytciapcamhocmcaa", sum := "2d1d8d1267001e9000f89dda1395942a252ad298b3239e0ce6c7a85487012a70", func := "loop.example/g01020/laws.FnExactFirstArrival", spec := "fnExactFirstArrival", apart := false, narrowed := true }
def FnExactFirstArrivalUptoSaid : Prop := fnExactFirstArrivalUptoRow.holds Try.pinned (OpenSpec.upto fnExactFirstArrivalSpec)

/-- 'laws.FnExactKeepsRules', WHERE WHAT IT READS IS OF BULK AT MOST 1048576: true; the input reads as it did. -/
def fnExactKeepsRulesUptoRow : OpenClaim := { program := "ytciapcamhocmcaa", sum := "2d1d8d1267001e9000f89dda1395942a252ad298b3239e0ce6c7a85487012a70", func := "loop.example/g01020/laws.FnExactKeepsRules", spec := "fnExactKeepsRules", apart := false, narrowed := true }
def FnExactKeepsRulesUptoSaid : Prop := fnExactKeepsRulesUptoRow.holds Try.pinned (OpenSpec.upto fnExactKeepsRulesSpec)

/-- 'laws.FnExactTimesOf', WHERE WHAT IT READS IS OF BULK AT MOST 1048576: true; the input reads as it did. -/
def fnExactTimesOfUptoRow : OpenClaim := { program := "ytciapcamhocmcaa", sum := "2d1d8d1267001e9000f89dda1395942a252ad298b3239e0ce6c7a85487012a70", func := "loop.example/g01020/laws.FnExactTimesOf", spec := "fnExactTimesOf", apart := false, narrowed := true }
def FnExactTimesOfUptoSaid : Prop := fnExactTimesOfUptoRow.holds Try.pinned (OpenSpec.upto fnExactTimesOfSpec)

/-- 'laws.FnExactLateTurnouts', WHERE WHAT IT READS IS OF BULK AT MOST 1048576: true; the input reads as it did. -/
def fnExactLateTurnoutsUptoRow : OpenClaim := { program := "ytciapcamhocmcaa", sum := "2d1d8d1267001e9000f89dda1395942a252ad298b3239e0ce6c7a85487012a70", func := "loop.example/g01020/laws.FnExactLateTurnouts", spec := "fnExactLateTurnouts", apart := false, narrowed := true }
def FnExactLateTurnoutsUptoSaid : Prop := fnExactLateTurnoutsUptoRow.holds Try.pinned (OpenSpec.upto fnExactLateTurnoutsSpec)

/-- 'laws.FnExactFirstAlarm', WHERE WHAT IT READS IS OF BULK AT MOST 1048576: true; the input reads as it did. -/
def fnExactFirstAlarmUptoRow : OpenClaim := { program := "ytciapcamhocmcaa", sum := "2d1d8d1267001e9000f89dda1395942a252ad298b3239e0ce6c7a85487012a70", func := "loop.example/g01020/laws.FnExactFirstAlarm", spec := "fnExactFirstAlarm", unfollowed := true, recurses := true, apart := false, narrowed := true }
def FnExactFirstAlarmUptoSaid : Prop := fnExactFirstAlarmUptoRow.holds Try.pinned (OpenSpec.upto fnExactFirstAlarmSpec)

/-- 'laws.FnExactBusyTwice', WHERE WHAT IT READS IS OF BULK AT MOST 1048576: true; the input reads as it did. -/
def fnExactBusyTwiceUptoRow : OpenClaim := { program := "ytciapcamhocmcaa", sum := "2d1d8d1267001e9000f89dda1395942a252ad298b3239e0ce6c7a85487012a70", func := "loop.example/g01020/laws.FnExactBusyTwice", spec := "fnExactBusyTwice", apart := false, narrowed := true }
def FnExactBusyTwiceUptoSaid : Prop := fnExactBusyTwiceUptoRow.holds Try.pinned (OpenSpec.upto fnExactBusyTwiceSpec)

/-- 'laws.FnAsks', WHERE WHAT IT READS IS OF BULK AT MOST 1048576: true; the input reads as it did. -/
def fnAsksUptoRow : OpenClaim := { program := "ytciapcamhocmcaa", sum := "2d1d8d1267001e9000f89dda1395942a252ad298b3239e0ce6c7a85487012a70", func := "loop.example/g01020/laws.FnAsks", spec := "fnAsks", unfollowed := true, recurses := true, apart := false, narrowed := true }
def FnAsksUptoSaid : Prop := fnAsksUptoRow.holds Try.pinned (OpenSpec.upto fnAsksSpec)

/-- 'laws.FnExactAlarmZones', WHERE WHAT IT READS IS OF BULK AT MOST 1048576: true; the input reads as it did. -/
def fnExactAlarmZonesUptoRow : OpenClaim := { program := "ytciapcamhocmcaa", sum := "2d1d8d1267001e9000f89dda1395942a252ad298b3239e0ce6c7a85487012a70", func := "loop.example/g01020/laws.FnExactAlarmZones", spec := "fnExactAlarmZones", unfollowed := true, recurses := true, apart := false, narrowed := true }
def FnExactAlarmZonesUptoSaid : Prop := fnExactAlarmZonesUptoRow.holds Try.pinned (OpenSpec.upto fnExactAlarmZonesSpec)

/-- 'laws.FnExactFalseSignals', WHERE WHAT IT READS IS OF BULK AT MOST 1048576: true; the input reads as it did. -/
def fnExactFalseSignalsUptoRow : OpenClaim := { program := "ytciapcamhocmcaa", sum := "2d1d8d1267001e9000f89dda1395942a252ad298b3239e0ce6c7a85487012a70", func := "loop.example/g01020/laws.FnExactFalseSignals", spec := "fnExactFalseSignals", unfollowed := true, recurses := true, apart := false, narrowed := true }
def FnExactFalseSignalsUptoSaid : Prop := fnExactFalseSignalsUptoRow.holds Try.pinned (OpenSpec.upto fnExactFalseSignalsSpec)

end Rows
end Go.Proofs.Ytciapcamhocmcaa
