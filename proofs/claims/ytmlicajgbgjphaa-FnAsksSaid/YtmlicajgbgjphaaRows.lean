/-
  No cell of these rows narrows 'for every input' (looked for: loops, veiled, ifaces, maps, wideKeys, modest, calm, conditions, laid).
  DERIVED. THE GIVEN ROWS OF THIS SEAT. 5 by the template 'for every input the law returns true; each argument reads behind the call as it read before'; 0 by the template 'total and deterministic' (their statements: YtmlicajgbgjphaaTotals.lean).
  GIVEN WITH THE SEED: the statements are not yours to turn. If you find one false, say at which input.
  Laid BY PROGRAM, IN A SANDBOX (cutbox-rows.mjs): the forced cells as the released guide's own fill.sh prints them over the translation d674f5c2d7eacbbd… (all of the seat's roots in one cut). By AI agents, Wed Nov 11 2026. No macro, syntax, notation, axiom, sorry.
-/
import Derived.Test.YtmlicajgbgjphaaChecked
import GoSem.Claim
import GoSem.ClaimJoined
import GoSem.ClaimMapViews
import Derived.JoinedTies
import Derived.KernelRfl
namespace Go.Proofs.Ytmlicajgbgjphaa
/- THE CELL 'sum', in the pinned program and in every row, IS THE sha256 OF THE DUMP (.gsa) THAT YtmlicajgbgjphaaProg.lean LOADS. Nothing in Lean hashes anything: it is a label: what it is worth is what the hold of that sum in a sandbox is worth. -/
noncomputable def Try.pinned : Pinned := { name := "ytmlicajgbgjphaa", sum := "d674f5c2d7eacbbd5c08129bb6ca7562a361b7360d1aa8c5d9a05af1861d73c5", checked := Try.checked }
namespace Rows
def none {H : Type} : Left H := { results := [], args := [] }

/-- 'laws.FnAsks': WHATEVER THE INPUT: true; the input reads as it did. -/
def fnAsksSpec : ChangeSpec := { name := "fnAsks", fn := fun _ => fun
  | [d1, d2] => { results := [.lit (.bool true)], args := [d1, d2] }
  | _ => none }
def fnAsksRow : OpenClaim := { program := "ytmlicajgbgjphaa", sum := "d674f5c2d7eacbbd5c08129bb6ca7562a361b7360d1aa8c5d9a05af1861d73c5", func := "loop.example/g01020/laws.FnAsks", spec := "fnAsks", unfollowed := true, recurses := true, apart := false }
def FnAsksSaid : Prop := fnAsksRow.holds Try.pinned (OpenSpec.ofChange fnAsksSpec)

/-- ITS FALSE NEIGHBOUR: 'it returns false'. Refute it at one input. -/
def fnAsksWrong : ChangeSpec := { name := "fnAsks", fn := fun _ => fun
  | [d1, d2] => { results := [.lit (.bool false)], args := [d1, d2] }
  | _ => none }
def FnAsksWrongFalsely : Prop := fnAsksRow.holds Try.pinned (OpenSpec.ofChange fnAsksWrong)

/-- 'laws.FnAlarms': WHATEVER THE INPUT: true; the input reads as it did. -/
def fnAlarmsSpec : ChangeSpec := { name := "fnAlarms", fn := fun _ => fun
  | [d1, d2] => { results := [.lit (.bool true)], args := [d1, d2] }
  | _ => none }
def fnAlarmsRow : OpenClaim := { program := "ytmlicajgbgjphaa", sum := "d674f5c2d7eacbbd5c08129bb6ca7562a361b7360d1aa8c5d9a05af1861d73c5", func := "loop.example/g01020/laws.FnAlarms", spec := "fnAlarms", unfollowed := true, recurses := true, apart := false }
def FnAlarmsSaid : Prop := fnAlarmsRow.holds Try.pinned (OpenSpec.ofChange fnAlarmsSpec)

/-- ITS FALSE NEIGHBOUR: 'it returns false'. Refute it at one input. -/
def fnAlarmsWrong : ChangeSpec := { name := "fnAlarms", fn := fun _ => fun
  | [d1, d2] => { results := [.lit (.bool false)], args := [d1, d2] }
  | _ => none }
def FnAlarmsWrongFalsely : Prop := fnAlarmsRow.holds Try.pinned (OpenSpec.ofChange fnAlarmsWrong)

/-- 'laws.FnThings': WHATEVER THE INPUT: true; the input reads as it did. -/
def fnThingsSpec : ChangeSpec := { name := "fnThings", fn := fun _ => fun
  | [d1, d2] => { results := [.lit (.bool true)], args := [d1, d2] }
  | _ => none }
def fnThingsRow : OpenClaim := { program := "ytmlicajgbgjphaa", sum := "d674f5c2d7eacbbd5c08129bb6ca7562a361b7360d1aa8c5d9a05af1861d73c5", func := "loop.example/g01020/laws.FnThings", spec := "fnThings", inPlace := ["internal/bytealg.abigen_runtime_cmpstring", "slices.overlaps[loop.example/g01020/impl.Thing]"], unfollowed := true, recurses := true, apart := false }
def FnThingsSaid : Prop := fnThingsRow.holds Try.pinned (OpenSpec.ofChange fnThingsSpec)

/-- ITS FALSE NEIGHBOUR: 'it returns false'. Refute it at one input. -/
def fnThingsWrong : ChangeSpec := { name := "fnThings", fn := fun _ => fun
  | [d1, d2] => { results := [.lit (.bool false)], args := [d1, d2] }
  | _ => none }
def FnThingsWrongFalsely : Prop := fnThingsRow.holds Try.pinned (OpenSpec.ofChange fnThingsWrong)

/-- 'laws.FnCallGroups': WHATEVER THE INPUT: true; the input reads as it did. -/
def fnCallGroupsSpec : ChangeSpec := { name := "fnCallGroups", fn := fun _ => fun
  | [d1, d2] => { results := [.lit (.bool true)], args := [d1, d2] }
  | _ => none }
def fnCallGroupsRow : OpenClaim := { program := "ytmlicajgbgjphaa", sum := "d674f5c2d7eacbbd5c08129bb6ca7562a361b7360d1aa8c5d9a05af1861d73c5", func := "loop.example/g01020/laws.FnCallGroups", spec := "fnCallGroups", unfollowed := true, recurses := true, apart := false }
def FnCallGroupsSaid : Prop := fnCallGroupsRow.holds Try.pinned (OpenSpec.ofChange fnCallGroupsSpec)

/-- ITS FALSE NEIGHBOUR: 'it returns false'. Refute it at one input. -/
def fnCallGroupsWrong : ChangeSpec := { name := "fnCallGroups", fn := fun _ => fun
  | [d1, d2] => { results := [.lit (.bool false)], args := [d1, d2] }
  | _ => none }
def FnCallGroupsWrongFalsely : Prop := fnCallGroupsRow.holds Try.pinned (OpenSpec.ofChange fnCallGroupsWrong)

/-- 'laws.FnRosters': WHATEVER THE INPUT: true; the input reads as it did. -/
def fnRostersSpec : ChangeSpec := { name := "fnRosters", fn := fun _ => fun
  | [d1, d2] => { results := [.lit (.bool true)], args := [d1, d2] }
  | _ => none }
def fnRostersRow : OpenClaim := { program := "ytmlicajgbgjphaa", sum := "d674f5c2d7eacbbd5c08129bb6ca7562a361b7360d1aa8c5d9a05af1861d73c5", func := "loop.example/g01020/laws.FnRosters", spec := "fnRosters", unfollowed := true, recurses := true, apart := false }
def FnRostersSaid : Prop := fnRostersRow.holds Try.pinned (OpenSpec.ofChange fnRostersSpec)

/-- ITS FALSE NEIGHBOUR: 'it returns false'. Refute it at one input. -/
def fnRostersWrong : ChangeSpec := { name := "fnRosters", fn := fun _ => fun
  | [d1, d2] => { results := [.lit (.bool false)], args := [d1, d2] }
  | _ => none }
def FnRostersWrongFalsely : Prop := fnRostersRow.holds Try.pinned (OpenSpec.ofChange fnRostersWrong)

/- THE SECOND FORM. 'bulk': how many values and letters a reading holds, each counted each time it is reached (what is shared counts as often as it is met; a slice's spare places count too). A statement '..UptoSaid' is the law's where the arguments, and the package variables that the reading takes, are together of bulk at most 1048576: NARROWER than '..Said'. Prove '..Said' where nothing that the law and all that it calls make is longer than what came in: it says more and counts as full. Else prove '..UptoSaid'. A law counts once. -/
mutual
def uptoBulk {H : Type} : DataW H → Nat
  | .lit (.string bytes) => bytes.length + 1
  | .lit _ => 1
  | .nil => 1
  | .ptr d => uptoBulk d + 1
  | .slice elems spare => uptoBulkAll elems + uptoBulkAll spare + 1
  | .agg parts => uptoBulkAll parts + 1
  | .iface _ d => uptoBulk d + 1
  | .map entries => uptoBulkEntries entries + 1
  | .held _ => 1
def uptoBulkAll {H : Type} : List (DataW H) → Nat
  | [] => 0
  | d :: r => uptoBulk d + uptoBulkAll r
def uptoBulkEntries {H : Type} : List (Lit × DataW H) → Nat
  | [] => 0
  | x :: r => uptoBulkEntry x + uptoBulkEntries r
def uptoBulkEntry {H : Type} : Lit × DataW H → Nat
  | (.string bytes, d) => bytes.length + uptoBulk d + 1
  | (_, d) => uptoBulk d + 1
 end
def uptoSmall : (H : Type) → List (DataW H) → Bool := fun _ ds => decide (uptoBulkAll ds ≤ 1048576)
def OpenSpec.upto (s : _root_.Go.ChangeSpec) : _root_.Go.OpenSpec := { _root_.Go.OpenSpec.ofChange s with cond := some uptoSmall }

/-- 'laws.FnAsks', WHERE WHAT IT READS IS OF BULK AT MOST 1048576: true; the input reads as it did. -/
def fnAsksUptoRow : OpenClaim := { program := "ytmlicajgbgjphaa", sum := "d674f5c2d7eacbbd5c08129bb6ca7562a361b7360d1aa8c5d9a05af1861d73c5", func := "loop.example/g01020/laws.FnAsks", spec := "fnAsks", unfollowed := true, recurses := true, apart := false, narrowed := true }
def FnAsksUptoSaid : Prop := fnAsksUptoRow.holds Try.pinned (OpenSpec.upto fnAsksSpec)

/-- 'laws.FnAlarms', WHERE WHAT IT READS IS OF BULK AT MOST 1048576: true; the input reads as it did. -/
def fnAlarmsUptoRow : OpenClaim := { program := "ytmlicajgbgjphaa", sum := "d674f5c2d7eacbbd5c08129bb6ca7562a361b7360d1aa8c5d9a05af1861d73c5", func := "loop.example/g01020/laws.FnAlarms", spec := "fnAlarms", unfollowed := true, recurses := true, apart := false, narrowed := true }
def FnAlarmsUptoSaid : Prop := fnAlarmsUptoRow.holds Try.pinned (OpenSpec.upto fnAlarmsSpec)

/-- 'laws.FnThings', WHERE WHAT IT READS IS OF BULK AT MOST 1048576: true; the input reads as it did. -/
def fnThingsUptoRow : OpenClaim := { program := "ytmlicajgbgjphaa", sum := "d674f5c2d7eacbbd5c08129bb6ca7562a361b7360d1aa8c5d9a05af1861d73c5", func := "loop.example/g01020/laws.FnThings", spec := "fnThings", inPlace := ["internal/bytealg.abigen_runtime_cmpstring", "slices.overlaps[loop.example/g01020/impl.Thing]"], unfollowed := true, recurses := true, apart := false, narrowed := true }
def FnThingsUptoSaid : Prop := fnThingsUptoRow.holds Try.pinned (OpenSpec.upto fnThingsSpec)

/-- 'laws.FnCallGroups', WHERE WHAT IT READS IS OF BULK AT MOST 1048576: true; the input reads as it did. -/
def fnCallGroupsUptoRow : OpenClaim := { program := "ytmlicajgbgjphaa", sum := "d674f5c2d7eacbbd5c08129bb6ca7562a361b7360d1aa8c5d9a05af1861d73c5", func := "loop.example/g01020/laws.FnCallGroups", spec := "fnCallGroups", unfollowed := true, recurses := true, apart := false, narrowed := true }
def FnCallGroupsUptoSaid : Prop := fnCallGroupsUptoRow.holds Try.pinned (OpenSpec.upto fnCallGroupsSpec)

/-- 'laws.FnRosters', WHERE WHAT IT READS IS OF BULK AT MOST 1048576: true; the input reads as it did. -/
def fnRostersUptoRow : OpenClaim := { program := "ytmlicajgbgjphaa", sum := "d674f5c2d7eacbbd5c08129bb6ca7562a361b7360d1aa8c5d9a05af1861d73c5", func := "loop.example/g01020/laws.FnRosters", spec := "fnRosters", unfollowed := true, recurses := true, apart := false, narrowed := true }
def FnRostersUptoSaid : Prop := fnRostersUptoRow.holds Try.pinned (OpenSpec.upto fnRostersSpec)

end Rows
end Go.Proofs.Ytmlicajgbgjphaa
