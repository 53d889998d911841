/-
  No cell of these rows narrows 'for every input' (looked for: loops, veiled, ifaces, maps, wideKeys, modest, calm, conditions, laid).
  DERIVED. THE GIVEN ROWS OF THIS SEAT. 5 by the template 'for every input the law returns true; each argument reads behind the call as it read before'; 0 by the template 'total and deterministic' (their statements: YtaefoaghpehbpaaGreatTotals.lean).
  GIVEN WITH THE SEED: the statements are not yours to turn. If you find one false, say at which input.
  Laid BY PROGRAM, IN A SANDBOX (cutbox-rows.mjs): the forced cells as the released guide's own fill.sh prints them over the translation 28e35d9bffc78ea6… (all of the seat's roots in one cut). By AI agents, Wed Nov 11 2026. No macro, syntax, notation, axiom, sorry.
-/
import Derived.Test.YtaefoaghpehbpaaGreatChecked
import GoSem.Claim
import GoSem.ClaimJoined
import GoSem.ClaimMapViews
import Derived.JoinedTies
import Derived.KernelRfl
namespace Go.Proofs.YtaefoaghpehbpaaGreat
/- THE CELL 'sum', in the pinned program and in every row, IS THE sha256 OF THE DUMP (.gsa) THAT YtaefoaghpehbpaaGreatProg.lean LOADS. Nothing in Lean hashes anything: it is a label: what it is worth is what the hold of that sum in a sandbox is worth. -/
noncomputable def Tryz.pinned : Pinned := { name := "ytaefoaghpehbpaagreat", sum := "28e35d9bffc78ea672a58f0b21cfd8fc913ef304c151700212930f263939c67c", checked := Tryz.checked }
namespace Rows
def none {H : Type} : Left H := { results := [], args := [] }

/-- 'laws.FnExactFinishIncident': WHATEVER THE INPUT: true; the input reads as it did. -/
def fnExactFinishIncidentSpec : ChangeSpec := { name := "fnExactFinishIncident", fn := fun _ => fun
  | [d1, d2, d3] => { results := [.lit (.bool true)], args := [d1, d2, d3] }
  | _ => none }
def fnExactFinishIncidentRow : OpenClaim := { program := "ytaefoaghpehbpaagreat", sum := "28e35d9bffc78ea672a58f0b21cfd8fc913ef304c151700212930f263939c67c", func := "loop.example/g01020/laws.FnExactFinishIncident", spec := "fnExactFinishIncident", unfollowed := true, recurses := true, apart := false }
def FnExactFinishIncidentSaid : Prop := fnExactFinishIncidentRow.holds Tryz.pinned (OpenSpec.ofChange fnExactFinishIncidentSpec)

/-- ITS FALSE NEIGHBOUR: 'it returns false'. Refute it at one input. -/
def fnExactFinishIncidentWrong : ChangeSpec := { name := "fnExactFinishIncident", fn := fun _ => fun
  | [d1, d2, d3] => { results := [.lit (.bool false)], args := [d1, d2, d3] }
  | _ => none }
def FnExactFinishIncidentWrongFalsely : Prop := fnExactFinishIncidentRow.holds Tryz.pinned (OpenSpec.ofChange fnExactFinishIncidentWrong)

/-- 'laws.FnExactReportState': WHATEVER THE INPUT: true; the input reads as it did. -/
def fnExactReportStateSpec : ChangeSpec := { name := "fnExactReportState", fn := fun _ => fun
  | [d1, d2, d3, d4] => { results := [.lit (.bool true)], args := [d1, d2, d3, d4] }
  | _ => none }
def fnExactReportStateRow : OpenClaim := { program := "ytaefoaghpehbpaagreat", sum := "28e35d9bffc78ea672a58f0b21cfd8fc913ef304c151700212930f263939c67c", func := "loop.example/g01020/laws.FnExactReportState", spec := "fnExactReportState", unfollowed := true, recurses := true, apart := false }
def FnExactReportStateSaid : Prop := fnExactReportStateRow.holds Tryz.pinned (OpenSpec.ofChange fnExactReportStateSpec)

/-- ITS FALSE NEIGHBOUR: 'it returns false'. Refute it at one input. -/
def fnExactReportStateWrong : ChangeSpec := { name := "fnExactReportState", fn := fun _ => fun
  | [d1, d2, d3, d4] => { results := [.lit (.bool false)], args := [d1, d2, d3, d4] }
  | _ => none }
def FnExactReportStateWrongFalsely : Prop := fnExactReportStateRow.holds Tryz.pinned (OpenSpec.ofChange fnExactReportStateWrong)

/-- 'laws.FnExactFillWants': WHATEVER THE INPUT: true; the input reads as it did. -/
def fnExactFillWantsSpec : ChangeSpec := { name := "fnExactFillWants", fn := fun _ => fun
  | [d1, d2] => { results := [.lit (.bool true)], args := [d1, d2] }
  | _ => none }
def fnExactFillWantsRow : OpenClaim := { program := "ytaefoaghpehbpaagreat", sum := "28e35d9bffc78ea672a58f0b21cfd8fc913ef304c151700212930f263939c67c", func := "loop.example/g01020/laws.FnExactFillWants", spec := "fnExactFillWants", inPlace := ["slices.overlaps[string]"], unfollowed := true, recurses := true, apart := false }
def FnExactFillWantsSaid : Prop := fnExactFillWantsRow.holds Tryz.pinned (OpenSpec.ofChange fnExactFillWantsSpec)

/-- ITS FALSE NEIGHBOUR: 'it returns false'. Refute it at one input. -/
def fnExactFillWantsWrong : ChangeSpec := { name := "fnExactFillWants", fn := fun _ => fun
  | [d1, d2] => { results := [.lit (.bool false)], args := [d1, d2] }
  | _ => none }
def FnExactFillWantsWrongFalsely : Prop := fnExactFillWantsRow.holds Tryz.pinned (OpenSpec.ofChange fnExactFillWantsWrong)

/-- 'laws.FnExactTakeCall': WHATEVER THE INPUT: true; the input reads as it did. -/
def fnExactTakeCallSpec : ChangeSpec := { name := "fnExactTakeCall", fn := fun _ => fun
  | [d1, d2, d3, d4, d5] => { results := [.lit (.bool true)], args := [d1, d2, d3, d4, d5] }
  | _ => none }
def fnExactTakeCallRow : OpenClaim := { program := "ytaefoaghpehbpaagreat", sum := "28e35d9bffc78ea672a58f0b21cfd8fc913ef304c151700212930f263939c67c", func := "loop.example/g01020/laws.FnExactTakeCall", spec := "fnExactTakeCall", inPlace := ["slices.overlaps[string]"], unfollowed := true, recurses := true, apart := false }
def FnExactTakeCallSaid : Prop := fnExactTakeCallRow.holds Tryz.pinned (OpenSpec.ofChange fnExactTakeCallSpec)

/-- ITS FALSE NEIGHBOUR: 'it returns false'. Refute it at one input. -/
def fnExactTakeCallWrong : ChangeSpec := { name := "fnExactTakeCall", fn := fun _ => fun
  | [d1, d2, d3, d4, d5] => { results := [.lit (.bool false)], args := [d1, d2, d3, d4, d5] }
  | _ => none }
def FnExactTakeCallWrongFalsely : Prop := fnExactTakeCallRow.holds Tryz.pinned (OpenSpec.ofChange fnExactTakeCallWrong)

/-- 'laws.FnControlRoom': WHATEVER THE INPUT: true; the input reads as it did. -/
def fnControlRoomSpec : ChangeSpec := { name := "fnControlRoom", fn := fun _ => fun
  | [d1, d2] => { results := [.lit (.bool true)], args := [d1, d2] }
  | _ => none }
def fnControlRoomRow : OpenClaim := { program := "ytaefoaghpehbpaagreat", sum := "28e35d9bffc78ea672a58f0b21cfd8fc913ef304c151700212930f263939c67c", func := "loop.example/g01020/laws.FnControlRoom", spec := "fnControlRoom", inPlace := ["slices.overlaps[string]"], unfollowed := true, recurses := true, apart := false }
def FnControlRoomSaid : Prop := fnControlRoomRow.holds Tryz.pinned (OpenSpec.ofChange fnControlRoomSpec)

/-- ITS FALSE NEIGHBOUR: 'it returns false'. Refute it at one input. -/
def fnControlRoomWrong : ChangeSpec := { name := "fnControlRoom", fn := fun _ => fun
  | [d1, d2] => { results := [.lit (.bool false)], args := [d1, d2] }
  | _ => none }
def FnControlRoomWrongFalsely : Prop := fnControlRoomRow.holds Tryz.pinned (OpenSpec.ofChange fnControlRoomWrong)

/- THE SECOND FORM. 'bulk': how many values and letters a reading holds, each counted each time it is reached (what is shared counts as often as it is met; a slice's spare places count too). A statement '..UptoSaid' is the law's where the arguments, and the package variables that the reading takes, are together of bulk at most 1048576: NARROWER than '..Said'. Prove '..Said' where nothing that the law and all that it calls make is longer than what came in: it says more and counts as full. Else prove '..UptoSaid'. A law counts once. -/
mutual
def uptoBulk {H : Type} : DataW H → Nat
  | .lit (.string bytes) => bytes.length + 1
  | .lit _ => 1
  | .nil => 1
  | .ptr d => uptoBulk d + 1
  | .slice elems spare => uptoBulkAll elems + uptoBulkAll spare + 1
  | .agg parts => uptoBulkAll parts + 1
  | .iface _ d => uptoBulk d + 1
  | .map entries => uptoBulkEntries entries + 1
  | .held _ => 1
def uptoBulkAll {H : Type} : List (DataW H) → Nat
  | [] => 0
  | d :: r => uptoBulk d + uptoBulkAll r
def uptoBulkEntries {H : Type} : List (Lit × DataW H) → Nat
  | [] => 0
  | x :: r => uptoBulkEntry x + uptoBulkEntries r
def uptoBulkEntry {H : Type} : Lit × DataW H → Nat
  | (.string bytes, d) => bytes.length + uptoBulk d + 1
  | (_, d) => uptoBulk d + 1
 end
def uptoSmall : (H : Type) → List (DataW H) → Bool := fun _ ds => decide (uptoBulkAll ds ≤ 1048576)
def OpenSpec.upto (s : _root_.Go.ChangeSpec) : _root_.Go.OpenSpec := { _root_.Go.OpenSpec.ofChange s with cond := some uptoSmall }

/-- 'laws.FnExactFinishIncident', WHERE WHAT IT READS IS OF BULK AT MOST 1048576: true; the input reads as it did. -/
def fnExactFinishIncidentUptoRow : OpenClaim := { program := "ytaefoaghpehbpaagreat", sum := "28e35d9bffc78ea672a58f0b21cfd8fc913ef304c151700212930f263939c67c", func := "loop.example/g01020/laws.FnExactFinishIncident", spec := "fnExactFinishIncident", unfollowed := true, recurses := true, apart := false, narrowed := true }
def FnExactFinishIncidentUptoSaid : Prop := fnExactFinishIncidentUptoRow.holds Tryz.pinned (OpenSpec.upto fnExactFinishIncidentSpec)

/-- 'laws.FnExactReportState', WHERE WHAT IT READS IS OF BULK AT MOST 1048576: true; the input reads as it did. -/
def fnExactReportStateUptoRow : OpenClaim := { program := "ytaefoaghpehbpaagreat", sum := "28e35d9bffc78ea672a58f0b21cfd8fc913ef304c151700212930f263939c67c", func := "loop.example/g01020/laws.FnExactReportState", spec := "fnExactReportState", unfollowed := true, recurses := true, apart := false, narrowed := true }
def FnExactReportStateUptoSaid : Prop := fnExactReportStateUptoRow.holds Tryz.pinned (OpenSpec.upto fnExactReportStateSpec)

/-- 'laws.FnExactFillWants', WHERE WHAT IT READS IS OF BULK AT MOST 1048576: true; the input reads as it did. -/
def fnExactFillWantsUptoRow : OpenClaim := { program := "ytaefoaghpehbpaagreat", sum := "28e35d9bffc78ea672a58f0b21cfd8fc913ef304c151700212930f263939c67c", func := "loop.example/g01020/laws.FnExactFillWants", spec := "fnExactFillWants", inPlace := ["slices.overlaps[string]"], unfollowed := true, recurses := true, apart := false, narrowed := true }
def FnExactFillWantsUptoSaid : Prop := fnExactFillWantsUptoRow.holds Tryz.pinned (OpenSpec.upto fnExactFillWantsSpec)

/-- 'laws.FnExactTakeCall', WHERE WHAT IT READS IS OF BULK AT MOST 1048576: true; the input reads as it did. -/
def fnExactTakeCallUptoRow : OpenClaim := { program := "ytaefoaghpehbpaagreat", sum := "28e35d9bffc78ea672a58f0b21cfd8fc913ef304c151700212930f263939c67c", func := "loop.example/g01020/laws.FnExactTakeCall", spec := "fnExactTakeCall", inPlace := ["slices.overlaps[string]"], unfollowed := true, recurses := true, apart := false, narrowed := true }
def FnExactTakeCallUptoSaid : Prop := fnExactTakeCallUptoRow.holds Tryz.pinned (OpenSpec.upto fnExactTakeCallSpec)

/-- 'laws.FnControlRoom', WHERE WHAT IT READS IS OF BULK AT MOST 1048576: true; the input reads as it did. -/
def fnControlRoomUptoRow : OpenClaim := { program := "ytaefoaghpehbpaagreat", sum := "28e35d9bffc78ea672a58f0b21cfd8fc913ef304c151700212930f263939c67c", func := "loop.example/g01020/laws.FnControlRoom", spec := "fnControlRoom", inPlace := ["slices.overlaps[string]"], unfollowed := true, recurses := true, apart := false, narrowed := true }
def FnControlRoomUptoSaid : Prop := fnControlRoomUptoRow.holds Tryz.pinned (OpenSpec.upto fnControlRoomSpec)

end Rows
end Go.Proofs.YtaefoaghpehbpaaGreat
