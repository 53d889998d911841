/-
  No cell of these rows narrows 'for every input' (looked for: loops, veiled, ifaces, maps, wideKeys, modest, calm, conditions, laid).
  DERIVED. THE GIVEN ROWS OF THIS SEAT. 4 by the template 'for every input the law returns true; each argument reads behind the call as it read before'; 0 by the template 'total and deterministic' (their statements: YtdgenniiidgimaaGreatTotals.lean).
  GIVEN WITH THE SEED: the statements are not yours to turn. If you find one false, say at which input.
  Laid BY PROGRAM, IN A SANDBOX (cutbox-rows.mjs): the forced cells as the released guide's own fill.sh prints them over the translation 88c5234ef07114ab… (all of the seat's roots in one cut). By AI agents, Wed Nov 11 2026. No macro, syntax, notation, axiom, sorry.
-/
import Derived.Test.YtdgenniiidgimaaGreatChecked
import GoSem.Claim
import GoSem.ClaimJoined
import GoSem.ClaimMapViews
import Derived.JoinedTies
import Derived.KernelRfl
namespace Go.Proofs.YtdgenniiidgimaaGreat
/- THE CELL 'sum', in the pinned program and in every row, IS THE sha256 OF THE DUMP (.gsa) THAT YtdgenniiidgimaaGreatProg.lean LOADS. Nothing in Lean hashes anything: it is a label: what it is worth is what the hold of that sum in a sandbox is worth. -/
noncomputable def Tryz.pinned : Pinned := { name := "ytdgenniiidgimaagreat", sum := "88c5234ef07114aba2521ad4a72fd1cf61470465c9c38f6f2cb81abdbfe64a26", checked := Tryz.checked }
namespace Rows
def none {H : Type} : Left H := { results := [], args := [] }

/-- 'laws.FnExactStatesAtIncident': WHATEVER THE INPUT: true; the input reads as it did. -/
def fnExactStatesAtIncidentSpec : ChangeSpec := { name := "fnExactStatesAtIncident", fn := fun _ => fun
  | [d1, d2, d3] => { results := [.lit (.bool true)], args := [d1, d2, d3] }
  | _ => none }
def fnExactStatesAtIncidentRow : OpenClaim := { program := "ytdgenniiidgimaagreat", sum := "88c5234ef07114aba2521ad4a72fd1cf61470465c9c38f6f2cb81abdbfe64a26", func := "loop.example/g01020/laws.FnExactStatesAtIncident", spec := "fnExactStatesAtIncident", unfollowed := true, recurses := true, apart := false }
def FnExactStatesAtIncidentSaid : Prop := fnExactStatesAtIncidentRow.holds Tryz.pinned (OpenSpec.ofChange fnExactStatesAtIncidentSpec)

/-- ITS FALSE NEIGHBOUR: 'it returns false'. Refute it at one input. -/
def fnExactStatesAtIncidentWrong : ChangeSpec := { name := "fnExactStatesAtIncident", fn := fun _ => fun
  | [d1, d2, d3] => { results := [.lit (.bool false)], args := [d1, d2, d3] }
  | _ => none }
def FnExactStatesAtIncidentWrongFalsely : Prop := fnExactStatesAtIncidentRow.holds Tryz.pinned (OpenSpec.ofChange fnExactStatesAtIncidentWrong)

/-- 'laws.FnExactOpenNeeds': WHATEVER THE INPUT: true; the input reads as it did. -/
def fnExactOpenNeedsSpec : ChangeSpec := { name := "fnExactOpenNeeds", fn := fun _ => fun
  | [d1, d2] => { results := [.lit (.bool true)], args := [d1, d2] }
  | _ => none }
def fnExactOpenNeedsRow : OpenClaim := { program := "ytdgenniiidgimaagreat", sum := "88c5234ef07114aba2521ad4a72fd1cf61470465c9c38f6f2cb81abdbfe64a26", func := "loop.example/g01020/laws.FnExactOpenNeeds", spec := "fnExactOpenNeeds", unfollowed := true, recurses := true, apart := false }
def FnExactOpenNeedsSaid : Prop := fnExactOpenNeedsRow.holds Tryz.pinned (OpenSpec.ofChange fnExactOpenNeedsSpec)

/-- ITS FALSE NEIGHBOUR: 'it returns false'. Refute it at one input. -/
def fnExactOpenNeedsWrong : ChangeSpec := { name := "fnExactOpenNeeds", fn := fun _ => fun
  | [d1, d2] => { results := [.lit (.bool false)], args := [d1, d2] }
  | _ => none }
def FnExactOpenNeedsWrongFalsely : Prop := fnExactOpenNeedsRow.holds Tryz.pinned (OpenSpec.ofChange fnExactOpenNeedsWrong)

/-- 'laws.FnExactFreeToSend': WHATEVER THE INPUT: true; the input reads as it did. -/
def fnExactFreeToSendSpec : ChangeSpec := { name := "fnExactFreeToSend", fn := fun _ => fun
  | [d1, d2] => { results := [.lit (.bool true)], args := [d1, d2] }
  | _ => none }
def fnExactFreeToSendRow : OpenClaim := { program := "ytdgenniiidgimaagreat", sum := "88c5234ef07114aba2521ad4a72fd1cf61470465c9c38f6f2cb81abdbfe64a26", func := "loop.example/g01020/laws.FnExactFreeToSend", spec := "fnExactFreeToSend", unfollowed := true, recurses := true, apart := false }
def FnExactFreeToSendSaid : Prop := fnExactFreeToSendRow.holds Tryz.pinned (OpenSpec.ofChange fnExactFreeToSendSpec)

/-- ITS FALSE NEIGHBOUR: 'it returns false'. Refute it at one input. -/
def fnExactFreeToSendWrong : ChangeSpec := { name := "fnExactFreeToSend", fn := fun _ => fun
  | [d1, d2] => { results := [.lit (.bool false)], args := [d1, d2] }
  | _ => none }
def FnExactFreeToSendWrongFalsely : Prop := fnExactFreeToSendRow.holds Tryz.pinned (OpenSpec.ofChange fnExactFreeToSendWrong)

/-- 'laws.FnExactArriveAt': WHATEVER THE INPUT: true; the input reads as it did. -/
def fnExactArriveAtSpec : ChangeSpec := { name := "fnExactArriveAt", fn := fun _ => fun
  | [d1, d2, d3] => { results := [.lit (.bool true)], args := [d1, d2, d3] }
  | _ => none }
def fnExactArriveAtRow : OpenClaim := { program := "ytdgenniiidgimaagreat", sum := "88c5234ef07114aba2521ad4a72fd1cf61470465c9c38f6f2cb81abdbfe64a26", func := "loop.example/g01020/laws.FnExactArriveAt", spec := "fnExactArriveAt", unfollowed := true, recurses := true, apart := false }
def FnExactArriveAtSaid : Prop := fnExactArriveAtRow.holds Tryz.pinned (OpenSpec.ofChange fnExactArriveAtSpec)

/-- ITS FALSE NEIGHBOUR: 'it returns false'. Refute it at one input. -/
def fnExactArriveAtWrong : ChangeSpec := { name := "fnExactArriveAt", fn := fun _ => fun
  | [d1, d2, d3] => { results := [.lit (.bool false)], args := [d1, d2, d3] }
  | _ => none }
def FnExactArriveAtWrongFalsely : Prop := fnExactArriveAtRow.holds Tryz.pinned (OpenSpec.ofChange fnExactArriveAtWrong)

/- THE SECOND FORM. 'bulk': how many values and letters a reading holds, each counted each time it is reached (what is shared counts as often as it is met; a slice's spare places count too). A statement '..UptoSaid' is the law's where the arguments, and the package variables that the reading takes, are together of bulk at most 1048576: NARROWER than '..Said'. Prove '..Said' where nothing that the law and all that it calls make is longer than what came in: it says more and counts as full. Else prove '..UptoSaid'. A law counts once. -/
mutual
def uptoBulk {H : Type} : DataW H → Nat
  | .lit (.string bytes) => bytes.length + 1
  | .lit _ => 1
  | .nil => 1
  | .ptr d => uptoBulk d + 1
  | .slice elems spare => uptoBulkAll elems + uptoBulkAll spare + 1
  | .agg parts => uptoBulkAll parts + 1
  | .iface _ d => uptoBulk d + 1
  | .map entries => uptoBulkEntries entries + 1
  | .held _ => 1
def uptoBulkAll {H : Type} : List (DataW H) → Nat
  | [] => 0
  | d :: r => uptoBulk d + uptoBulkAll r
def uptoBulkEntries {H : Type} : List (Lit × DataW H) → Nat
  | [] => 0
  | x :: r => uptoBulkEntry x + uptoBulkEntries r
def uptoBulkEntry {H : Type} : Lit × DataW H → Nat
  | (.string bytes, d) => bytes.length + uptoBulk d + 1
  | (_, d) => uptoBulk d + 1
 end
def uptoSmall : (H : Type) → List (DataW H) → Bool := fun _ ds => decide (uptoBulkAll ds ≤ 1048576)
def OpenSpec.upto (s : _root_.Go.ChangeSpec) : _root_.Go.OpenSpec := { _root_.Go.OpenSpec.ofChange s with cond := some uptoSmall }

/-- 'laws.FnExactStatesAtIncident', WHERE WHAT IT READS IS OF BULK AT MOST 1048576: true; the input reads as it did. -/
def fnExactStatesAtIncidentUptoRow : OpenClaim := { program := "ytdgenniiidgimaagreat", sum := "88c5234ef07114aba2521ad4a72fd1cf61470465c9c38f6f2cb81abdbfe64a26", func := "loop.example/g01020/laws.FnExactStatesAtIncident", spec := "fnExactStatesAtIncident", unfollowed := true, recurses := true, apart := false, narrowed := true }
def FnExactStatesAtIncidentUptoSaid : Prop := fnExactStatesAtIncidentUptoRow.holds Tryz.pinned (OpenSpec.upto fnExactStatesAtIncidentSpec)

/-- 'laws.FnExactOpenNeeds', WHERE WHAT IT READS IS OF BULK AT MOST 1048576: true; the input reads as it did. -/
def fnExactOpenNeedsUptoRow : OpenClaim := { program := "ytdgenniiidgimaagreat", sum := "88c5234ef07114aba2521ad4a72fd1cf61470465c9c38f6f2cb81abdbfe64a26", func := "loop.example/g01020/laws.FnExactOpenNeeds", spec := "fnExactOpenNeeds", unfollowed := true, recurses := true, apart := false, narrowed := true }
def FnExactOpenNeedsUptoSaid : Prop := fnExactOpenNeedsUptoRow.holds Tryz.pinned (OpenSpec.upto fnExactOpenNeedsSpec)

/-- 'laws.FnExactFreeToSend', WHERE WHAT IT READS IS OF BULK AT MOST 1048576: true; the input reads as it did. -/
def fnExactFreeToSendUptoRow : OpenClaim := { program := "ytdgenniiidgimaagreat", sum := "88c5234ef07114aba2521ad4a72fd1cf61470465c9c38f6f2cb81abdbfe64a26", func := "loop.example/g01020/laws.FnExactFreeToSend", spec := "fnExactFreeToSend", unfollowed := true, recurses := true, apart := false, narrowed := true }
def FnExactFreeToSendUptoSaid : Prop := fnExactFreeToSendUptoRow.holds Tryz.pinned (OpenSpec.upto fnExactFreeToSendSpec)

/-- 'laws.FnExactArriveAt', WHERE WHAT IT READS IS OF BULK AT MOST 1048576: true; the input reads as it did. -/
def fnExactArriveAtUptoRow : OpenClaim := { program := "ytdgenniiidgimaagreat", sum := "88c5234ef07114aba2521ad4a72fd1cf61470465c9c38f6f2cb81abdbfe64a26", func := "loop.example/g01020/laws.FnExactArriveAt", spec := "fnExactArriveAt", unfollowed := true, recurses := true, apart := false, narrowed := true }
def FnExactArriveAtUptoSaid : Prop := fnExactArriveAtUptoRow.holds Tryz.pinned (OpenSpec.upto fnExactArriveAtSpec)

end Rows
end Go.Proofs.YtdgenniiidgimaaGreat
