/-
  No cell of these rows narrows 'for every input' (looked for: loops, veiled, ifaces, maps, wideKeys, modest, calm, conditions, laid).
  DERIVED. THE GIVEN ROWS OF THIS SEAT. 7 by the template 'for every input the law returns true; each argument reads behind the call as it read before'; 0 by the template 'total and deterministic' (their statements: YtdgenniiidgimaaTotals.lean).
  GIVEN WITH THE SEED: the statements are not yours to turn. If you find one false, say at which input.
  Laid BY PROGRAM, IN A SANDBOX (cutbox-rows.mjs): the forced cells as the released guide's own fill.sh prints them over the translation bcd90995c28a0cd6… (all of the seat's roots in one cut). By AI agents, Wed Nov 11 2026. No macro, syntax, notation, axiom, sorry.
-/
import Derived.Test.YtdgenniiidgimaaChecked
import GoSem.Claim
import GoSem.ClaimJoined
import GoSem.ClaimMapViews
import Derived.JoinedTies
import Derived.KernelRfl
namespace Go.Proofs.Ytdgenniiidgimaa
/- THE CELL 'sum', in the pinned program and in every row, IS THE sha256 OF THE DUMP (.gsa) THAT YtdgenniiidgimaaProg.lean LOADS. Nothing in Lean hashes anything: it is a label: what it is worth is what the hold of that sum in a sandbox is worth. -/
noncomputable def Try.pinned : Pinned := { name := "ytdgenniiidgimaa", sum := "bcd90995c28a0cd633a0d775c594589a03f86ffae0c1568ac98c4d5dd181eaef", checked := Try.checked }
namespace Rows
def none {H : Type} : Left H := { results := [], args := [] }

/-- 'laws.FnExactNoisyDetectors': WHATEVER THE INPUT: true; the input reads as it did. -/
def fnExactNoisyDetectorsSpec : ChangeSpec := { name := "fnExactNoisyDetectors", fn := fun _ => fun
  | [d1, d2, d3, d4] => { results := [.lit (.bool true)], args := [d1, d2, d3, d4] }
  | _ => none }
def fnExactNoisyDetectorsRow : OpenClaim := { program := "ytdgenniiidgimaa", sum := "bcd90995c28a0cd633a0d775c594589a03f86ffae0c1568ac98c4d5dd181eaef", func := "loop.example/g01020/laws.FnExactNoisyDetectors", spec := "fnExactNoisyDetectors", unfollowed := true, recurses := true, apart := false }
def FnExactNoisyDetectorsSaid : Prop := fnExactNoisyDetectorsRow.holds Try.pinned (OpenSpec.ofChange fnExactNoisyDetectorsSpec)

/-- ITS FALSE NEIGHBOUR: 'it returns false'. Refute it at one input. -/
def fnExactNoisyDetectorsWrong : ChangeSpec := { name := "fnExactNoisyDetectors", fn := fun _ => fun
  | [d1, d2, d3, d4] => { results := [.lit (.bool false)], args := [d1, d2, d3, d4] }
  | _ => none }
def FnExactNoisyDetectorsWrongFalsely : Prop := fnExactNoisyDetectorsRow.holds Try.pinned (OpenSpec.ofChange fnExactNoisyDetectorsWrong)

/-- 'laws.FnAlarms': WHATEVER THE INPUT: true; the input reads as it did. -/
def fnAlarmsSpec : ChangeSpec := { name := "fnAlarms", fn := fun _ => fun
  | [d1, d2] => { results := [.lit (.bool true)], args := [d1, d2] }
  | _ => none }
def fnAlarmsRow : OpenClaim := { program := "ytdgenniiidgimaa", sum := "bcd90995c28a0cd633a0d775c594589a03f86ffae0c1568ac98c4d5dd181eaef", func := "loop.example/g01020/laws.FnAlarms", spec := "fnAlarms", unfollowed := true, recurses := true, apart := false }
def FnAlarmsSaid : Prop := fnAlarmsRow.holds Try.pinned (OpenSpec.ofChange fnAlarmsSpec)

/-- ITS FALSE NEIGHBOUR: 'it returns false'. Refute it at one input. -/
def fnAlarmsWrong : ChangeSpec := { name := "fnAlarms", fn := fun _ => fun
  | [d1, d2] => { results := [.lit (.bool false)], args := [d1, d2] }
  | _ => none }
def FnAlarmsWrongFalsely : Prop := fnAlarmsRow.holds Try.pinned (OpenSpec.ofChange fnAlarmsWrong)

/-- 'laws.FnExactOtherChoices': WHATEVER THE INPUT: true; the input reads as it did. -/
def fnExactOtherChoicesSpec : ChangeSpec := { name := "fnExactOtherChoices", fn := fun _ => fun
  | [d1, d2, d3, d4, d5] => { results := [.lit (.bool true)], args := [d1, d2, d3, d4, d5] }
  | _ => none }
def fnExactOtherChoicesRow : OpenClaim := { program := "ytdgenniiidgimaa", sum := "bcd90995c28a0cd633a0d775c594589a03f86ffae0c1568ac98c4d5dd181eaef", func := "loop.example/g01020/laws.FnExactOtherChoices", spec := "fnExactOtherChoices", unfollowed := true, recurses := true, apart := false }
def FnExactOtherChoicesSaid : Prop := fnExactOtherChoicesRow.holds Try.pinned (OpenSpec.ofChange fnExactOtherChoicesSpec)

/-- ITS FALSE NEIGHBOUR: 'it returns false'. Refute it at one input. -/
def fnExactOtherChoicesWrong : ChangeSpec := { name := "fnExactOtherChoices", fn := fun _ => fun
  | [d1, d2, d3, d4, d5] => { results := [.lit (.bool false)], args := [d1, d2, d3, d4, d5] }
  | _ => none }
def FnExactOtherChoicesWrongFalsely : Prop := fnExactOtherChoicesRow.holds Try.pinned (OpenSpec.ofChange fnExactOtherChoicesWrong)

/-- 'laws.FnExactNewControl': WHATEVER THE INPUT: true; the input reads as it did. -/
def fnExactNewControlSpec : ChangeSpec := { name := "fnExactNewControl", fn := fun _ => fun
  | [d1, d2] => { results := [.lit (.bool true)], args := [d1, d2] }
  | _ => none }
def fnExactNewControlRow : OpenClaim := { program := "ytdgenniiidgimaa", sum := "bcd90995c28a0cd633a0d775c594589a03f86ffae0c1568ac98c4d5dd181eaef", func := "loop.example/g01020/laws.FnExactNewControl", spec := "fnExactNewControl", unfollowed := true, recurses := true, apart := false }
def FnExactNewControlSaid : Prop := fnExactNewControlRow.holds Try.pinned (OpenSpec.ofChange fnExactNewControlSpec)

/-- ITS FALSE NEIGHBOUR: 'it returns false'. Refute it at one input. -/
def fnExactNewControlWrong : ChangeSpec := { name := "fnExactNewControl", fn := fun _ => fun
  | [d1, d2] => { results := [.lit (.bool false)], args := [d1, d2] }
  | _ => none }
def FnExactNewControlWrongFalsely : Prop := fnExactNewControlRow.holds Try.pinned (OpenSpec.ofChange fnExactNewControlWrong)

/-- 'laws.FnExactRankOfChoice': WHATEVER THE INPUT: true; the input reads as it did. -/
def fnExactRankOfChoiceSpec : ChangeSpec := { name := "fnExactRankOfChoice", fn := fun _ => fun
  | [d1, d2, d3, d4] => { results := [.lit (.bool true)], args := [d1, d2, d3, d4] }
  | _ => none }
def fnExactRankOfChoiceRow : OpenClaim := { program := "ytdgenniiidgimaa", sum := "bcd90995c28a0cd633a0d775c594589a03f86ffae0c1568ac98c4d5dd181eaef", func := "loop.example/g01020/laws.FnExactRankOfChoice", spec := "fnExactRankOfChoice", unfollowed := true, recurses := true, apart := false }
def FnExactRankOfChoiceSaid : Prop := fnExactRankOfChoiceRow.holds Try.pinned (OpenSpec.ofChange fnExactRankOfChoiceSpec)

/-- ITS FALSE NEIGHBOUR: 'it returns false'. Refute it at one input. -/
def fnExactRankOfChoiceWrong : ChangeSpec := { name := "fnExactRankOfChoice", fn := fun _ => fun
  | [d1, d2, d3, d4] => { results := [.lit (.bool false)], args := [d1, d2, d3, d4] }
  | _ => none }
def FnExactRankOfChoiceWrongFalsely : Prop := fnExactRankOfChoiceRow.holds Try.pinned (OpenSpec.ofChange fnExactRankOfChoiceWrong)

/-- 'laws.FnExactIsControl': WHATEVER THE INPUT: true; the input reads as it did. -/
def fnExactIsControlSpec : ChangeSpec := { name := "fnExactIsControl", fn := fun _ => fun
  | [d1, d2] => { results := [.lit (.bool true)], args := [d1, d2] }
  | _ => none }
def fnExactIsControlRow : OpenClaim := { program := "ytdgenniiidgimaa", sum := "bcd90995c28a0cd633a0d775c594589a03f86ffae0c1568ac98c4d5dd181eaef", func := "loop.example/g01020/laws.FnExactIsControl", spec := "fnExactIsControl", unfollowed := true, recurses := true, apart := false }
def FnExactIsControlSaid : Prop := fnExactIsControlRow.holds Try.pinned (OpenSpec.ofChange fnExactIsControlSpec)

/-- ITS FALSE NEIGHBOUR: 'it returns false'. Refute it at one input. -/
def fnExactIsControlWrong : ChangeSpec := { name := "fnExactIsControl", fn := fun _ => fun
  | [d1, d2] => { results := [.lit (.bool false)], args := [d1, d2] }
  | _ => none }
def FnExactIsControlWrongFalsely : Prop := fnExactIsControlRow.holds Try.pinned (OpenSpec.ofChange fnExactIsControlWrong)

/-- 'laws.FnExactExtraSeconds': WHATEVER THE INPUT: true; the input reads as it did. -/
def fnExactExtraSecondsSpec : ChangeSpec := { name := "fnExactExtraSeconds", fn := fun _ => fun
  | [d1, d2, d3, d4, d5] => { results := [.lit (.bool true)], args := [d1, d2, d3, d4, d5] }
  | _ => none }
def fnExactExtraSecondsRow : OpenClaim := { program := "ytdgenniiidgimaa", sum := "bcd90995c28a0cd633a0d775c594589a03f86ffae0c1568ac98c4d5dd181eaef", func := "loop.example/g01020/laws.FnExactExtraSeconds", spec := "fnExactExtraSeconds", unfollowed := true, recurses := true, apart := false }
def FnExactExtraSecondsSaid : Prop := fnExactExtraSecondsRow.holds Try.pinned (OpenSpec.ofChange fnExactExtraSecondsSpec)

/-- ITS FALSE NEIGHBOUR: 'it returns false'. Refute it at one input. -/
def fnExactExtraSecondsWrong : ChangeSpec := { name := "fnExactExtraSeconds", fn := fun _ => fun
  | [d1, d2, d3, d4, d5] => { results := [.lit (.bool false)], args := [d1, d2, d3, d4, d5] }
  | _ => none }
def FnExactExtraSecondsWrongFalsely : Prop := fnExactExtraSecondsRow.holds Try.pinned (OpenSpec.ofChange fnExactExtraSecondsWrong)

/- THE SECOND FORM. 'bulk': how many values and letters a reading holds, each counted each time it is reached (what is shared counts as often as it is met; a slice's spare places count too). A statement '..UptoSaid' is the law's where the arguments, and the package variables that the reading takes, are together of bulk at most 1048576: NARROWER than '..Said'. Prove '..Said' where nothing that the law and all that it calls make is longer than what came in: it says more and counts as full. Else prove '..UptoSaid'. A law counts once. -/
mutual
def uptoBulk {H : Type} : DataW H → Nat
  | .lit (.string bytes) => bytes.length + 1
  | .lit _ => 1
  | .nil => 1
  | .ptr d => uptoBulk d + 1
  | .slice elems spare => uptoBulkAll elems + uptoBulkAll spare + 1
  | .agg parts => uptoBulkAll parts + 1
  | .iface _ d => uptoBulk d + 1
  | .map entries => uptoBulkEntries entries + 1
  | .held _ => 1
def uptoBulkAll {H : Type} : List (DataW H) → Nat
  | [] => 0
  | d :: r => uptoBulk d + uptoBulkAll r
def uptoBulkEntries {H : Type} : List (Lit × DataW H) → Nat
  | [] => 0
  | x :: r => uptoBulkEntry x + uptoBulkEntries r
def uptoBulkEntry {H : Type} : Lit × DataW H → Nat
  | (.string bytes, d) => bytes.length + uptoBulk d + 1
  | (_, d) => uptoBulk d + 1
 end
def uptoSmall : (H : Type) → List (DataW H) → Bool := fun _ ds => decide (uptoBulkAll ds ≤ 1048576)
def OpenSpec.upto (s : _root_.Go.ChangeSpec) : _root_.Go.OpenSpec := { _root_.Go.OpenSpec.ofChange s with cond := some uptoSmall }

/-- 'laws.FnExactNoisyDetectors', WHERE WHAT IT READS IS OF BULK AT MOST 1048576: true; the input reads as it did. -/
def fnExactNoisyDetectorsUptoRow : OpenClaim := { program := "ytdgenniiidgimaa", sum := "bcd90995c28a0cd633a0d775c594589a03f86ffae0c1568ac98c4d5dd181eaef", func := "loop.example/g01020/laws.FnExactNoisyDetectors", spec := "fnExactNoisyDetectors", unfollowed := true, recurses := true, apart := false, narrowed := true }
def FnExactNoisyDetectorsUptoSaid : Prop := fnExactNoisyDetectorsUptoRow.holds Try.pinned (OpenSpec.upto fnExactNoisyDetectorsSpec)

/-- 'laws.FnAlarms', WHERE WHAT IT READS IS OF BULK AT MOST 1048576: true; the input reads as it did. -/
def fnAlarmsUptoRow : OpenClaim := { program := "ytdgenniiidgimaa", sum := "bcd90995c28a0cd633a0d775c594589a03f86ffae0c1568ac98c4d5dd181eaef", func := "loop.example/g01020/laws.FnAlarms", spec := "fnAlarms", unfollowed := true, recurses := true, apart := false, narrowed := true }
def FnAlarmsUptoSaid : Prop := fnAlarmsUptoRow.holds Try.pinned (OpenSpec.upto fnAlarmsSpec)

/-- 'laws.FnExactOtherChoices', WHERE WHAT IT READS IS OF BULK AT MOST 1048576: true; the input reads as it did. -/
def fnExactOtherChoicesUptoRow : OpenClaim := { program := "ytdgenniiidgimaa", sum := "bcd90995c28a0cd633a0d775c594589a03f86ffae0c1568ac98c4d5dd181eaef", func := "loop.example/g01020/laws.FnExactOtherChoices", spec := "fnExactOtherChoices", unfollowed := true, recurses := true, apart := false, narrowed := true }
def FnExactOtherChoicesUptoSaid : Prop := fnExactOtherChoicesUptoRow.holds Try.pinned (OpenSpec.upto fnExactOtherChoicesSpec)

/-- 'laws.FnExactNewControl', WHERE WHAT IT READS IS OF BULK AT MOST 1048576: true; the input reads as it did. -/
def fnExactNewControlUptoRow : OpenClaim := { program := "ytdgenniiidgimaa", sum := "bcd90995c28a0cd633a0d775c594589a03f86ffae0c1568ac98c4d5dd181eaef", func := "loop.example/g01020/laws.FnExactNewControl", spec := "fnExactNewControl", unfollowed := true, recurses := true, apart := false, narrowed := true }
def FnExactNewControlUptoSaid : Prop := fnExactNewControlUptoRow.holds Try.pinned (OpenSpec.upto fnExactNewControlSpec)

/-- 'laws.FnExactRankOfChoice', WHERE WHAT IT READS IS OF BULK AT MOST 1048576: true; the input reads as it did. -/
def fnExactRankOfChoiceUptoRow : OpenClaim := { program := "ytdgenniiidgimaa", sum := "bcd90995c28a0cd633a0d775c594589a03f86ffae0c1568ac98c4d5dd181eaef", func := "loop.example/g01020/laws.FnExactRankOfChoice", spec := "fnExactRankOfChoice", unfollowed := true, recurses := true, apart := false, narrowed := true }
def FnExactRankOfChoiceUptoSaid : Prop := fnExactRankOfChoiceUptoRow.holds Try.pinned (OpenSpec.upto fnExactRankOfChoiceSpec)

/-- 'laws.FnExactIsControl', WHERE WHAT IT READS IS OF BULK AT MOST 1048576: true; the input reads as it did. -/
def fnExactIsControlUptoRow : OpenClaim := { program := "ytdgenniiidgimaa", sum := "bcd90995c28a0cd633a0d775c594589a03f86ffae0c1568ac98c4d5dd181eaef", func := "loop.example/g01020/laws.FnExactIsControl", spec := "fnExactIsControl", unfollowed := true, recurses := true, apart := false, narrowed := true }
def FnExactIsControlUptoSaid : Prop := fnExactIsControlUptoRow.holds Try.pinned (OpenSpec.upto fnExactIsControlSpec)

/-- 'laws.FnExactExtraSeconds', WHERE WHAT IT READS IS OF BULK AT MOST 1048576: true; the input reads as it did. -/
def fnExactExtraSecondsUptoRow : OpenClaim := { program := "ytdgenniiidgimaa", sum := "bcd90995c28a0cd633a0d775c594589a03f86ffae0c1568ac98c4d5dd181eaef", func := "loop.example/g01020/laws.FnExactExtraSeconds", spec := "fnExactExtraSeconds", unfollowed := true, recurses := true, apart := false, narrowed := true }
def FnExactExtraSecondsUptoSaid : Prop := fnExactExtraSecondsUptoRow.holds Try.pinned (OpenSpec.upto fnExactExtraSecondsSpec)

end Rows
end Go.Proofs.Ytdgenniiidgimaa
