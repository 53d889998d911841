/-
  No cell of these rows narrows 'for every input' (looked for: loops, veiled, ifaces, maps, wideKeys, modest, calm, conditions, laid).
  DERIVED. THE GIVEN ROWS OF THIS SEAT. 4 by the template 'for every input the law returns true; each argument reads behind the call as it read before'; 0 by the template 'total and deterministic' (their statements: YtldnelkcmffiaaaTotals.lean).
  GIVEN WITH THE SEED: the statements are not yours to turn. If you find one false, say at which input.
  Laid BY PROGRAM, IN A SANDBOX (cutbox-rows.mjs): the forced cells as the released guide's own fill.sh prints them over the translation b23e1b89d7069b99… (all of the seat's roots in one cut). By AI agents, Wed Nov 11 2026. No macro, syntax, notation, axiom, sorry.
-/
import Derived.Test.YtldnelkcmffiaaaChecked
import GoSem.Claim
import GoSem.ClaimJoined
import GoSem.ClaimMapViews
import Derived.JoinedTies
import Derived.KernelRfl
namespace Go.Proofs.Ytldnelkcmffiaaa
/- THE CELL 'sum', in the pinned program and in every row, IS THE sha256 OF THE DUMP (.gsa) THAT YtldnelkcmffiaaaProg.lean LOADS. Nothing in Lean hashes anything: it is a label: what it is worth is what the hold of that sum in a sandbox is worth. -/
noncomputable def Try.pinned : Pinned := { name := "ytldnelkcmffiaaa", sum := "b23e1b89d7069b99455e8ef15eef54521f6cfcf2f2f91eea766967c11dcc87de", checked := Try.checked }
namespace Rows
def none {H : Type} : Left H := { results := [], args := [] }

/-- 'laws.FnExactTimeForShare': WHATEVER THE INPUT: true; the input reads as it did. -/
def fnExactTimeForShareSpec : ChangeSpec := { name := "fnExactTimeForShare", fn := fun _ => fun
  | [d1, d2] => { results := [.lit (.bool true)], args := [d1, d2] }
  | _ => none }
def fnExactTimeForShareRow : OpenClaim := { program := "ytldnelkcmffiaaa", sum := "b23e1b89d7069b99455e8ef15eef54521f6cfcf2f2f91eea766967c11dcc87de", func := "loop.example/g01020/laws.FnExactTimeForShare", spec := "fnExactTimeForShare", recurses := true, apart := false }
def FnExactTimeForShareSaid : Prop := fnExactTimeForShareRow.holds Try.pinned (OpenSpec.ofChange fnExactTimeForShareSpec)

/-- ITS FALSE NEIGHBOUR: 'it returns false'. Refute it at one input. -/
def fnExactTimeForShareWrong : ChangeSpec := { name := "fnExactTimeForShare", fn := fun _ => fun
  | [d1, d2] => { results := [.lit (.bool false)], args := [d1, d2] }
  | _ => none }
def FnExactTimeForShareWrongFalsely : Prop := fnExactTimeForShareRow.holds Try.pinned (OpenSpec.ofChange fnExactTimeForShareWrong)

/-- 'laws.FnExactExchangeShifts': WHATEVER THE INPUT: true; the input reads as it did. -/
def fnExactExchangeShiftsSpec : ChangeSpec := { name := "fnExactExchangeShifts", fn := fun _ => fun
  | [d1, d2, d3, d4, d5, d6] => { results := [.lit (.bool true)], args := [d1, d2, d3, d4, d5, d6] }
  | _ => none }
def fnExactExchangeShiftsRow : OpenClaim := { program := "ytldnelkcmffiaaa", sum := "b23e1b89d7069b99455e8ef15eef54521f6cfcf2f2f91eea766967c11dcc87de", func := "loop.example/g01020/laws.FnExactExchangeShifts", spec := "fnExactExchangeShifts", recurses := true, apart := false }
def FnExactExchangeShiftsSaid : Prop := fnExactExchangeShiftsRow.holds Try.pinned (OpenSpec.ofChange fnExactExchangeShiftsSpec)

/-- ITS FALSE NEIGHBOUR: 'it returns false'. Refute it at one input. -/
def fnExactExchangeShiftsWrong : ChangeSpec := { name := "fnExactExchangeShifts", fn := fun _ => fun
  | [d1, d2, d3, d4, d5, d6] => { results := [.lit (.bool false)], args := [d1, d2, d3, d4, d5, d6] }
  | _ => none }
def FnExactExchangeShiftsWrongFalsely : Prop := fnExactExchangeShiftsRow.holds Try.pinned (OpenSpec.ofChange fnExactExchangeShiftsWrong)

/-- 'laws.FnExactFewestPeople': WHATEVER THE INPUT: true; the input reads as it did. -/
def fnExactFewestPeopleSpec : ChangeSpec := { name := "fnExactFewestPeople", fn := fun _ => fun
  | [d1, d2, d3] => { results := [.lit (.bool true)], args := [d1, d2, d3] }
  | _ => none }
def fnExactFewestPeopleRow : OpenClaim := { program := "ytldnelkcmffiaaa", sum := "b23e1b89d7069b99455e8ef15eef54521f6cfcf2f2f91eea766967c11dcc87de", func := "loop.example/g01020/laws.FnExactFewestPeople", spec := "fnExactFewestPeople", unfollowed := true, recurses := true, apart := false }
def FnExactFewestPeopleSaid : Prop := fnExactFewestPeopleRow.holds Try.pinned (OpenSpec.ofChange fnExactFewestPeopleSpec)

/-- ITS FALSE NEIGHBOUR: 'it returns false'. Refute it at one input. -/
def fnExactFewestPeopleWrong : ChangeSpec := { name := "fnExactFewestPeople", fn := fun _ => fun
  | [d1, d2, d3] => { results := [.lit (.bool false)], args := [d1, d2, d3] }
  | _ => none }
def FnExactFewestPeopleWrongFalsely : Prop := fnExactFewestPeopleRow.holds Try.pinned (OpenSpec.ofChange fnExactFewestPeopleWrong)

/-- 'laws.FnExactMakeRoster': WHATEVER THE INPUT: true; the input reads as it did. -/
def fnExactMakeRosterSpec : ChangeSpec := { name := "fnExactMakeRoster", fn := fun _ => fun
  | [d1, d2] => { results := [.lit (.bool true)], args := [d1, d2] }
  | _ => none }
def fnExactMakeRosterRow : OpenClaim := { program := "ytldnelkcmffiaaa", sum := "b23e1b89d7069b99455e8ef15eef54521f6cfcf2f2f91eea766967c11dcc87de", func := "loop.example/g01020/laws.FnExactMakeRoster", spec := "fnExactMakeRoster", unfollowed := true, recurses := true, apart := false }
def FnExactMakeRosterSaid : Prop := fnExactMakeRosterRow.holds Try.pinned (OpenSpec.ofChange fnExactMakeRosterSpec)

/-- ITS FALSE NEIGHBOUR: 'it returns false'. Refute it at one input. -/
def fnExactMakeRosterWrong : ChangeSpec := { name := "fnExactMakeRoster", fn := fun _ => fun
  | [d1, d2] => { results := [.lit (.bool false)], args := [d1, d2] }
  | _ => none }
def FnExactMakeRosterWrongFalsely : Prop := fnExactMakeRosterRow.holds Try.pinned (OpenSpec.ofChange fnExactMakeRosterWrong)

/- THE SECOND FORM. 'bulk': how many values and letters a reading holds, each counted each time it is reached (what is shared counts as often as it is met; a slice's spare places count too). A statement '..UptoSaid' is the law's where the arguments, and the package variables that the reading takes, are together of bulk at most 1048576: NARROWER than '..Said'. Prove '..Said' where nothing that the law and all that it calls make is longer than what came in: it says more and counts as full. Else prove '..UptoSaid'. A law counts once. -/
mutual
def uptoBulk {H : Type} : DataW H → Nat
  | .lit (.string bytes) => bytes.length + 1
  | .lit _ => 1
  | .nil => 1
  | .ptr d => uptoBulk d + 1
  | .slice elems spare => uptoBulkAll elems + uptoBulkAll spare + 1
  | .agg parts => uptoBulkAll parts + 1
  | .iface _ d => uptoBulk d + 1
  | .map entries => uptoBulkEntries entries + 1
  | .held _ => 1
def uptoBulkAll {H : Type} : List (DataW H) → Nat
  | [] => 0
  | d :: r => uptoBulk d + uptoBulkAll r
def uptoBulkEntries {H : Type} : List (Lit × DataW H) → Nat
  | [] => 0
  | x :: r => uptoBulkEntry x + uptoBulkEntries r
def uptoBulkEntry {H : Type} : Lit × DataW H → Nat
  | (.string bytes, d) => bytes.length + uptoBulk d + 1
  | (_, d) => uptoBulk d + 1
 end
def uptoSmall : (H : Type) → List (DataW H) → Bool := fun _ ds => decide (uptoBulkAll ds ≤ 1048576)
def OpenSpec.upto (s : _root_.Go.ChangeSpec) : _root_.Go.OpenSpec := { _root_.Go.OpenSpec.ofChange s with cond := some uptoSmall }

/-- 'laws.FnExactTimeForShare', WHERE WHAT IT READS IS OF BULK AT MOST 1048576: true; the input reads as it did. -/
def fnExactTimeForShareUptoRow : OpenClaim := { program := "ytldnelkcmffiaaa", sum := "b23e1b89d7069b99455e8ef15eef54521f6cfcf2f2f91eea766967c11dcc87de", func := "loop.example/g01020/laws.FnExactTimeForShare", spec := "fnExactTimeForShare", recurses := true, apart := false, narrowed := true }
def FnExactTimeForShareUptoSaid : Prop := fnExactTimeForShareUptoRow.holds Try.pinned (OpenSpec.upto fnExactTimeForShareSpec)

/-- 'laws.FnExactExchangeShifts', WHERE WHAT IT READS IS OF BULK AT MOST 1048576: true; the input reads as it did. -/
def fnExactExchangeShiftsUptoRow : OpenClaim := { program := "ytldnelkcmffiaaa", sum := "b23e1b89d7069b99455e8ef15eef54521f6cfcf2f2f91eea766967c11dcc87de", func := "loop.example/g01020/laws.FnExactExchangeShifts", spec := "fnExactExchangeShifts", recurses := true, apart := false, narrowed := true }
def FnExactExchangeShiftsUptoSaid : Prop := fnExactExchangeShiftsUptoRow.holds Try.pinned (OpenSpec.upto fnExactExchangeShiftsSpec)

/-- 'laws.FnExactFewestPeople', WHERE WHAT IT READS IS OF BULK AT MOST 1048576: true; the input reads as it did. -/
def fnExactFewestPeopleUptoRow : OpenClaim := { program := "ytldnelkcmffiaaa", sum := "b23e1b89d7069b99455e8ef15eef54521f6cfcf2f2f91eea766967c11dcc87de", func := "loop.example/g01020/laws.FnExactFewestPeople", spec := "fnExactFewestPeople", unfollowed := true, recurses := true, apart := false, narrowed := true }
def FnExactFewestPeopleUptoSaid : Prop := fnExactFewestPeopleUptoRow.holds Try.pinned (OpenSpec.upto fnExactFewestPeopleSpec)

/-- 'laws.FnExactMakeRoster', WHERE WHAT IT READS IS OF BULK AT MOST 1048576: true; the input reads as it did. -/
def fnExactMakeRosterUptoRow : OpenClaim := { program := "ytldnelkcmffiaaa", sum := "b23e1b89d7069b99455e8ef15eef54521f6cfcf2f2f91eea766967c11dcc87de", func := "loop.example/g01020/laws.FnExactMakeRoster", spec := "fnExactMakeRoster", unfollowed := true, recurses := true, apart := false, narrowed := true }
def FnExactMakeRosterUptoSaid : Prop := fnExactMakeRosterUptoRow.holds Try.pinned (OpenSpec.upto fnExactMakeRosterSpec)

end Rows
end Go.Proofs.Ytldnelkcmffiaaa
