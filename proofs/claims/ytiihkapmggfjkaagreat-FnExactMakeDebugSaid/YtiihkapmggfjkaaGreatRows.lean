/-
  No cell of these rows narrows 'for every input' (looked for: loops, veiled, ifaces, maps, wideKeys, modest, calm, conditions, laid).
  DERIVED. THE GIVEN ROWS OF THIS SEAT. 3 by the template 'for every input the law returns true; each argument reads behind the call as it read before'; 0 by the template 'total and deterministic' (their statements: YtiihkapmggfjkaaGreatTotals.lean).
  GIVEN WITH THE SEED: the statements are not yours to turn. If you find one false, say at which input.
  Laid BY PROGRAM, IN A SANDBOX (cutbox-rows.mjs): the forced cells as the released guide's own fill.sh prints them over the translation c7085a905a5cced4… (all of the seat's roots in one cut). By AI agents, Wed Nov 11 2026. No macro, syntax, notation, axiom, sorry.
-/
import Derived.Test.YtiihkapmggfjkaaGreatChecked
import GoSem.Claim
import GoSem.ClaimJoined
import GoSem.ClaimMapViews
import Derived.JoinedTies
import Derived.KernelRfl
namespace Go.Proofs.YtiihkapmggfjkaaGreat
/- THE CELL 'sum', in the pinned program and in every row, IS THE sha256 OF THE DUMP (.gsa) THAT YtiihkapmggfjkaaGreatProg.lean LOADS. Nothing in Lean hashes anything: it is a label: what it is worth is what the hold of that sum in a sandbox is worth. -/
noncomputable def Tryz.pinned : Pinned := { name := "ytiihkapmggfjkaagreat", sum := "c7085a905a5cced45e157ae5f998936e7a7f97a2bc637ffc1dd16516d336ca95", checked := Tryz.checked }
namespace Rows
def none {H : Type} : Left H := { results := [], args := [] }

/-- 'laws.FnExactMakeDebug': WHATEVER THE INPUT: true; the input reads as it did. -/
def fnExactMakeDebugSpec : ChangeSpec := { name := "fnExactMakeDebug", fn := fun _ => fun
  | [d1, d2, d3] => { results := [.lit (.bool true)], args := [d1, d2, d3] }
  | _ => none }
def fnExactMakeDebugRow : OpenClaim := { program := "ytiihkapmggfjkaagreat", sum := "c7085a905a5cced45e157ae5f998936e7a7f97a2bc637ffc1dd16516d336ca95", func := "loop.example/g03314/laws.FnExactMakeDebug", spec := "fnExactMakeDebug", recurses := true, apart := false }
def FnExactMakeDebugSaid : Prop := fnExactMakeDebugRow.holds Tryz.pinned (OpenSpec.ofChange fnExactMakeDebugSpec)

/-- ITS FALSE NEIGHBOUR: 'it returns false'. Refute it at one input. -/
def fnExactMakeDebugWrong : ChangeSpec := { name := "fnExactMakeDebug", fn := fun _ => fun
  | [d1, d2, d3] => { results := [.lit (.bool false)], args := [d1, d2, d3] }
  | _ => none }
def FnExactMakeDebugWrongFalsely : Prop := fnExactMakeDebugRow.holds Tryz.pinned (OpenSpec.ofChange fnExactMakeDebugWrong)

/-- 'laws.FnAgentsLoad': WHATEVER THE INPUT: true; the input reads as it did. -/
def fnAgentsLoadSpec : ChangeSpec := { name := "fnAgentsLoad", fn := fun _ => fun
  | [d] => { results := [.lit (.bool true)], args := [d] }
  | _ => none }
def fnAgentsLoadRow : OpenClaim := { program := "ytiihkapmggfjkaagreat", sum := "c7085a905a5cced45e157ae5f998936e7a7f97a2bc637ffc1dd16516d336ca95", func := "loop.example/g03314/laws.FnAgentsLoad", spec := "fnAgentsLoad", recurses := true, apart := false }
def FnAgentsLoadSaid : Prop := fnAgentsLoadRow.holds Tryz.pinned (OpenSpec.ofChange fnAgentsLoadSpec)

/-- ITS FALSE NEIGHBOUR: 'it returns false'. Refute it at one input. -/
def fnAgentsLoadWrong : ChangeSpec := { name := "fnAgentsLoad", fn := fun _ => fun
  | [d] => { results := [.lit (.bool false)], args := [d] }
  | _ => none }
def FnAgentsLoadWrongFalsely : Prop := fnAgentsLoadRow.holds Tryz.pinned (OpenSpec.ofChange fnAgentsLoadWrong)

/-- 'laws.FnExactNewAgent': WHATEVER THE INPUT: true; the input reads as it did. -/
def fnExactNewAgentSpec : ChangeSpec := { name := "fnExactNewAgent", fn := fun _ => fun
  | [d1, d2, d3] => { results := [.lit (.bool true)], args := [d1, d2, d3] }
  | _ => none }
def fnExactNewAgentRow : OpenClaim := { program := "ytiihkapmggfjkaagreat", sum := "c7085a905a5cced45e157ae5f998936e7a7f97a2bc637ffc1dd16516d336ca95", func := "loop.example/g03314/laws.FnExactNewAgent", spec := "fnExactNewAgent", recurses := true, apart := false }
def FnExactNewAgentSaid : Prop := fnExactNewAgentRow.holds Tryz.pinned (OpenSpec.ofChange fnExactNewAgentSpec)

/-- ITS FALSE NEIGHBOUR: 'it returns false'. Refute it at one input. -/
def fnExactNewAgentWrong : ChangeSpec := { name := "fnExactNewAgent", fn := fun _ => fun
  | [d1, d2, d3] => { results := [.lit (.bool false)], args := [d1, d2, d3] }
  | _ => none }
def FnExactNewAgentWrongFalsely : Prop := fnExactNewAgentRow.holds Tryz.pinned (OpenSpec.ofChange fnExactNewAgentWrong)

/- THE SECOND FORM. 'bulk': how many values and letters a reading holds, each counted each time it is reached (what is shared counts as often as it is met; a slice's spare places count too). A statement '..UptoSaid' is the law's where the arguments, and the package variables that the reading takes, are together of bulk at most 1048576: NARROWER than '..Said'. Prove '..Said' where nothing that the law and all that it calls make is longer than what came in: it says more and counts as full. Else prove '..UptoSaid'. A law counts once. -/
mutual
def uptoBulk {H : Type} : DataW H → Nat
  | .lit (.string bytes) => bytes.length + 1
  | .lit _ => 1
  | .nil => 1
  | .ptr d => uptoBulk d + 1
  | .slice elems spare => uptoBulkAll elems + uptoBulkAll spare + 1
  | .agg parts => uptoBulkAll parts + 1
  | .iface _ d => uptoBulk d + 1
  | .map entries => uptoBulkEntries entries + 1
  | .held _ => 1
def uptoBulkAll {H : Type} : List (DataW H) → Nat
  | [] => 0
  | d :: r => uptoBulk d + uptoBulkAll r
def uptoBulkEntries {H : Type} : List (Lit × DataW H) → Nat
  | [] => 0
  | x :: r => uptoBulkEntry x + uptoBulkEntries r
def uptoBulkEntry {H : Type} : Lit × DataW H → Nat
  | (.string bytes, d) => bytes.length + uptoBulk d + 1
  | (_, d) => uptoBulk d + 1
 end
def uptoSmall : (H : Type) → List (DataW H) → Bool := fun _ ds => decide (uptoBulkAll ds ≤ 1048576)
def OpenSpec.upto (s : _root_.Go.ChangeSpec) : _root_.Go.OpenSpec := { _root_.Go.OpenSpec.ofChange s with cond := some uptoSmall }

/-- 'laws.FnExactMakeDebug', WHERE WHAT IT READS IS OF BULK AT MOST 1048576: true; the input reads as it did. -/
def fnExactMakeDebugUptoRow : OpenClaim := { program := "ytiihkapmggfjkaagreat", sum := "c7085a905a5cced45e157ae5f998936e7a7f97a2bc637ffc1dd16516d336ca95", func := "loop.example/g03314/laws.FnExactMakeDebug", spec := "fnExactMakeDebug", recurses := true, apart := false, narrowed := true }
def FnExactMakeDebugUptoSaid : Prop := fnExactMakeDebugUptoRow.holds Tryz.pinned (OpenSpec.upto fnExactMakeDebugSpec)

/-- 'laws.FnAgentsLoad', WHERE WHAT IT READS IS OF BULK AT MOST 1048576: true; the input reads as it did. -/
def fnAgentsLoadUptoRow : OpenClaim := { program := "ytiihkapmggfjkaagreat", sum := "c7085a905a5cced45e157ae5f998936e7a7f97a2bc637ffc1dd16516d336ca95", func := "loop.example/g03314/laws.FnAgentsLoad", spec := "fnAgentsLoad", recurses := true, apart := false, narrowed := true }
def FnAgentsLoadUptoSaid : Prop := fnAgentsLoadUptoRow.holds Tryz.pinned (OpenSpec.upto fnAgentsLoadSpec)

/-- 'laws.FnExactNewAgent', WHERE WHAT IT READS IS OF BULK AT MOST 1048576: true; the input reads as it did. -/
def fnExactNewAgentUptoRow : OpenClaim := { program := "ytiihkapmggfjkaagreat", sum := "c7085a905a5cced45e157ae5f998936e7a7f97a2bc637ffc1dd16516d336ca95", func := "loop.example/g03314/laws.FnExactNewAgent", spec := "fnExactNewAgent", recurses := true, apart := false, narrowed := true }
def FnExactNewAgentUptoSaid : Prop := fnExactNewAgentUptoRow.holds Tryz.pinned (OpenSpec.upto fnExactNewAgentSpec)

end Rows
end Go.Proofs.YtiihkapmggfjkaaGreat
