/-
  No cell of these rows narrows 'for every input' (looked for: loops, veiled, ifaces, maps, wideKeys, modest, calm, conditions, laid).
  DERIVED. THE GIVEN ROWS OF THIS SEAT. 12 by the template 'for every input the law returns true; each argument reads behind the call as it read before'; 0 by the template 'total and deterministic' (their statements: YtlapempepfjkpaaTotals.lean).
  GIVEN WITH THE SEED: the statements are not yours to turn. If you find one false, say at which input.
  Laid BY PROGRAM, IN A SANDBOX (cutbox-rows.mjs): the forced cells as the released guide's own fill.sh prints them over the translation cddb4940693d981b… (all of the seat's roots in one cut). By AI agents, Wed Nov 11 2026. No macro, syntax, notation, axiom, sorry.
-/
import Derived.Test.YtlapempepfjkpaaChecked
import GoSem.Claim
import GoSem.ClaimJoined
import GoSem.ClaimMapViews
import Derived.JoinedTies
import Derived.KernelRfl
namespace Go.Proofs.Ytlapempepfjkpaa
/- THE CELL 'sum', in the pinned program and in every row, IS THE sha256 OF THE DUMP (.gsa) THAT YtlapempepfjkpaaProg.lean LOADS. Nothing in Lean hashes anything: it is a label: what it is worth is what the hold of that sum in a sandbox is worth. -/
noncomputable def Try.pinned : Pinned := { name := "ytlapempepfjkpaa", sum := "cddb4940693d981bbf3e5de6a7403993c98ed8910bb1aaf555c9847f6a783630", checked := Try.checked }
namespace Rows
def none {H : Type} : Left H := { results := [], args := [] }

/-- 'laws.FnRingCounts': WHATEVER THE INPUT: true; the input reads as it did. -/
def fnRingCountsSpec : ChangeSpec := { name := "fnRingCounts", fn := fun _ => fun
  | [d] => { results := [.lit (.bool true)], args := [d] }
  | _ => none }
def fnRingCountsRow : OpenClaim := { program := "ytlapempepfjkpaa", sum := "cddb4940693d981bbf3e5de6a7403993c98ed8910bb1aaf555c9847f6a783630", func := "loop.example/g03314/laws.FnRingCounts", spec := "fnRingCounts", apart := false }
def FnRingCountsSaid : Prop := fnRingCountsRow.holds Try.pinned (OpenSpec.ofChange fnRingCountsSpec)

/-- ITS FALSE NEIGHBOUR: 'it returns false'. Refute it at one input. -/
def fnRingCountsWrong : ChangeSpec := { name := "fnRingCounts", fn := fun _ => fun
  | [d] => { results := [.lit (.bool false)], args := [d] }
  | _ => none }
def FnRingCountsWrongFalsely : Prop := fnRingCountsRow.holds Try.pinned (OpenSpec.ofChange fnRingCountsWrong)

/-- 'laws.FnTimers': WHATEVER THE INPUT: true; the input reads as it did. -/
def fnTimersSpec : ChangeSpec := { name := "fnTimers", fn := fun _ => fun
  | [d] => { results := [.lit (.bool true)], args := [d] }
  | _ => none }
def fnTimersRow : OpenClaim := { program := "ytlapempepfjkpaa", sum := "cddb4940693d981bbf3e5de6a7403993c98ed8910bb1aaf555c9847f6a783630", func := "loop.example/g03314/laws.FnTimers", spec := "fnTimers", apart := false }
def FnTimersSaid : Prop := fnTimersRow.holds Try.pinned (OpenSpec.ofChange fnTimersSpec)

/-- ITS FALSE NEIGHBOUR: 'it returns false'. Refute it at one input. -/
def fnTimersWrong : ChangeSpec := { name := "fnTimers", fn := fun _ => fun
  | [d] => { results := [.lit (.bool false)], args := [d] }
  | _ => none }
def FnTimersWrongFalsely : Prop := fnTimersRow.holds Try.pinned (OpenSpec.ofChange fnTimersWrong)

/-- 'laws.FnInterned': WHATEVER THE INPUT: true; the input reads as it did. -/
def fnInternedSpec : ChangeSpec := { name := "fnInterned", fn := fun _ => fun
  | [d] => { results := [.lit (.bool true)], args := [d] }
  | _ => none }
def fnInternedRow : OpenClaim := { program := "ytlapempepfjkpaa", sum := "cddb4940693d981bbf3e5de6a7403993c98ed8910bb1aaf555c9847f6a783630", func := "loop.example/g03314/laws.FnInterned", spec := "fnInterned", apart := false }
def FnInternedSaid : Prop := fnInternedRow.holds Try.pinned (OpenSpec.ofChange fnInternedSpec)

/-- ITS FALSE NEIGHBOUR: 'it returns false'. Refute it at one input. -/
def fnInternedWrong : ChangeSpec := { name := "fnInterned", fn := fun _ => fun
  | [d] => { results := [.lit (.bool false)], args := [d] }
  | _ => none }
def FnInternedWrongFalsely : Prop := fnInternedRow.holds Try.pinned (OpenSpec.ofChange fnInternedWrong)

/-- 'laws.FnExactStacksOk': WHATEVER THE INPUT: true; the input reads as it did. -/
def fnExactStacksOkSpec : ChangeSpec := { name := "fnExactStacksOk", fn := fun _ => fun
  | [d] => { results := [.lit (.bool true)], args := [d] }
  | _ => none }
def fnExactStacksOkRow : OpenClaim := { program := "ytlapempepfjkpaa", sum := "cddb4940693d981bbf3e5de6a7403993c98ed8910bb1aaf555c9847f6a783630", func := "loop.example/g03314/laws.FnExactStacksOk", spec := "fnExactStacksOk", apart := false }
def FnExactStacksOkSaid : Prop := fnExactStacksOkRow.holds Try.pinned (OpenSpec.ofChange fnExactStacksOkSpec)

/-- ITS FALSE NEIGHBOUR: 'it returns false'. Refute it at one input. -/
def fnExactStacksOkWrong : ChangeSpec := { name := "fnExactStacksOk", fn := fun _ => fun
  | [d] => { results := [.lit (.bool false)], args := [d] }
  | _ => none }
def FnExactStacksOkWrongFalsely : Prop := fnExactStacksOkRow.holds Try.pinned (OpenSpec.ofChange fnExactStacksOkWrong)

/-- 'laws.FnExactStackDepth': WHATEVER THE INPUT: true; the input reads as it did. -/
def fnExactStackDepthSpec : ChangeSpec := { name := "fnExactStackDepth", fn := fun _ => fun
  | [d1, d2] => { results := [.lit (.bool true)], args := [d1, d2] }
  | _ => none }
def fnExactStackDepthRow : OpenClaim := { program := "ytlapempepfjkpaa", sum := "cddb4940693d981bbf3e5de6a7403993c98ed8910bb1aaf555c9847f6a783630", func := "loop.example/g03314/laws.FnExactStackDepth", spec := "fnExactStackDepth", apart := false }
def FnExactStackDepthSaid : Prop := fnExactStackDepthRow.holds Try.pinned (OpenSpec.ofChange fnExactStackDepthSpec)

/-- ITS FALSE NEIGHBOUR: 'it returns false'. Refute it at one input. -/
def fnExactStackDepthWrong : ChangeSpec := { name := "fnExactStackDepth", fn := fun _ => fun
  | [d1, d2] => { results := [.lit (.bool false)], args := [d1, d2] }
  | _ => none }
def FnExactStackDepthWrongFalsely : Prop := fnExactStackDepthRow.holds Try.pinned (OpenSpec.ofChange fnExactStackDepthWrong)

/-- 'laws.FnExactFindStack': WHATEVER THE INPUT: true; the input reads as it did. -/
def fnExactFindStackSpec : ChangeSpec := { name := "fnExactFindStack", fn := fun _ => fun
  | [d1, d2] => { results := [.lit (.bool true)], args := [d1, d2] }
  | _ => none }
def fnExactFindStackRow : OpenClaim := { program := "ytlapempepfjkpaa", sum := "cddb4940693d981bbf3e5de6a7403993c98ed8910bb1aaf555c9847f6a783630", func := "loop.example/g03314/laws.FnExactFindStack", spec := "fnExactFindStack", apart := false }
def FnExactFindStackSaid : Prop := fnExactFindStackRow.holds Try.pinned (OpenSpec.ofChange fnExactFindStackSpec)

/-- ITS FALSE NEIGHBOUR: 'it returns false'. Refute it at one input. -/
def fnExactFindStackWrong : ChangeSpec := { name := "fnExactFindStack", fn := fun _ => fun
  | [d1, d2] => { results := [.lit (.bool false)], args := [d1, d2] }
  | _ => none }
def FnExactFindStackWrongFalsely : Prop := fnExactFindStackRow.holds Try.pinned (OpenSpec.ofChange fnExactFindStackWrong)

/-- 'laws.FnExactProfileOk': WHATEVER THE INPUT: true; the input reads as it did. -/
def fnExactProfileOkSpec : ChangeSpec := { name := "fnExactProfileOk", fn := fun _ => fun
  | [d] => { results := [.lit (.bool true)], args := [d] }
  | _ => none }
def fnExactProfileOkRow : OpenClaim := { program := "ytlapempepfjkpaa", sum := "cddb4940693d981bbf3e5de6a7403993c98ed8910bb1aaf555c9847f6a783630", func := "loop.example/g03314/laws.FnExactProfileOk", spec := "fnExactProfileOk", apart := false }
def FnExactProfileOkSaid : Prop := fnExactProfileOkRow.holds Try.pinned (OpenSpec.ofChange fnExactProfileOkSpec)

/-- ITS FALSE NEIGHBOUR: 'it returns false'. Refute it at one input. -/
def fnExactProfileOkWrong : ChangeSpec := { name := "fnExactProfileOk", fn := fun _ => fun
  | [d] => { results := [.lit (.bool false)], args := [d] }
  | _ => none }
def FnExactProfileOkWrongFalsely : Prop := fnExactProfileOkRow.holds Try.pinned (OpenSpec.ofChange fnExactProfileOkWrong)

/-- 'laws.FnExactStackAt': WHATEVER THE INPUT: true; the input reads as it did. -/
def fnExactStackAtSpec : ChangeSpec := { name := "fnExactStackAt", fn := fun _ => fun
  | [d1, d2] => { results := [.lit (.bool true)], args := [d1, d2] }
  | _ => none }
def fnExactStackAtRow : OpenClaim := { program := "ytlapempepfjkpaa", sum := "cddb4940693d981bbf3e5de6a7403993c98ed8910bb1aaf555c9847f6a783630", func := "loop.example/g03314/laws.FnExactStackAt", spec := "fnExactStackAt", apart := false }
def FnExactStackAtSaid : Prop := fnExactStackAtRow.holds Try.pinned (OpenSpec.ofChange fnExactStackAtSpec)

/-- ITS FALSE NEIGHBOUR: 'it returns false'. Refute it at one input. -/
def fnExactStackAtWrong : ChangeSpec := { name := "fnExactStackAt", fn := fun _ => fun
  | [d1, d2] => { results := [.lit (.bool false)], args := [d1, d2] }
  | _ => none }
def FnExactStackAtWrongFalsely : Prop := fnExactStackAtRow.holds Try.pinned (OpenSpec.ofChange fnExactStackAtWrong)

/-- 'laws.FnExactTotalOf': WHATEVER THE INPUT: true; the input reads as it did. -/
def fnExactTotalOfSpec : ChangeSpec := { name := "fnExactTotalOf", fn := fun _ => fun
  | [d] => { results := [.lit (.bool true)], args := [d] }
  | _ => none }
def fnExactTotalOfRow : OpenClaim := { program := "ytlapempepfjkpaa", sum := "cddb4940693d981bbf3e5de6a7403993c98ed8910bb1aaf555c9847f6a783630", func := "loop.example/g03314/laws.FnExactTotalOf", spec := "fnExactTotalOf", apart := false }
def FnExactTotalOfSaid : Prop := fnExactTotalOfRow.holds Try.pinned (OpenSpec.ofChange fnExactTotalOfSpec)

/-- ITS FALSE NEIGHBOUR: 'it returns false'. Refute it at one input. -/
def fnExactTotalOfWrong : ChangeSpec := { name := "fnExactTotalOf", fn := fun _ => fun
  | [d] => { results := [.lit (.bool false)], args := [d] }
  | _ => none }
def FnExactTotalOfWrongFalsely : Prop := fnExactTotalOfRow.holds Try.pinned (OpenSpec.ofChange fnExactTotalOfWrong)

/-- 'laws.FnExactInternStack': WHATEVER THE INPUT: true; the input reads as it did. -/
def fnExactInternStackSpec : ChangeSpec := { name := "fnExactInternStack", fn := fun _ => fun
  | [d1, d2] => { results := [.lit (.bool true)], args := [d1, d2] }
  | _ => none }
def fnExactInternStackRow : OpenClaim := { program := "ytlapempepfjkpaa", sum := "cddb4940693d981bbf3e5de6a7403993c98ed8910bb1aaf555c9847f6a783630", func := "loop.example/g03314/laws.FnExactInternStack", spec := "fnExactInternStack", apart := false }
def FnExactInternStackSaid : Prop := fnExactInternStackRow.holds Try.pinned (OpenSpec.ofChange fnExactInternStackSpec)

/-- ITS FALSE NEIGHBOUR: 'it returns false'. Refute it at one input. -/
def fnExactInternStackWrong : ChangeSpec := { name := "fnExactInternStack", fn := fun _ => fun
  | [d1, d2] => { results := [.lit (.bool false)], args := [d1, d2] }
  | _ => none }
def FnExactInternStackWrongFalsely : Prop := fnExactInternStackRow.holds Try.pinned (OpenSpec.ofChange fnExactInternStackWrong)

/-- 'laws.FnExactCountOf': WHATEVER THE INPUT: true; the input reads as it did. -/
def fnExactCountOfSpec : ChangeSpec := { name := "fnExactCountOf", fn := fun _ => fun
  | [d1, d2] => { results := [.lit (.bool true)], args := [d1, d2] }
  | _ => none }
def fnExactCountOfRow : OpenClaim := { program := "ytlapempepfjkpaa", sum := "cddb4940693d981bbf3e5de6a7403993c98ed8910bb1aaf555c9847f6a783630", func := "loop.example/g03314/laws.FnExactCountOf", spec := "fnExactCountOf", apart := false }
def FnExactCountOfSaid : Prop := fnExactCountOfRow.holds Try.pinned (OpenSpec.ofChange fnExactCountOfSpec)

/-- ITS FALSE NEIGHBOUR: 'it returns false'. Refute it at one input. -/
def fnExactCountOfWrong : ChangeSpec := { name := "fnExactCountOf", fn := fun _ => fun
  | [d1, d2] => { results := [.lit (.bool false)], args := [d1, d2] }
  | _ => none }
def FnExactCountOfWrongFalsely : Prop := fnExactCountOfRow.holds Try.pinned (OpenSpec.ofChange fnExactCountOfWrong)

/-- 'laws.FnExactAddStack': WHATEVER THE INPUT: true; the input reads as it did. -/
def fnExactAddStackSpec : ChangeSpec := { name := "fnExactAddStack", fn := fun _ => fun
  | [d1, d2, d3] => { results := [.lit (.bool true)], args := [d1, d2, d3] }
  | _ => none }
def fnExactAddStackRow : OpenClaim := { program := "ytlapempepfjkpaa", sum := "cddb4940693d981bbf3e5de6a7403993c98ed8910bb1aaf555c9847f6a783630", func := "loop.example/g03314/laws.FnExactAddStack", spec := "fnExactAddStack", apart := false }
def FnExactAddStackSaid : Prop := fnExactAddStackRow.holds Try.pinned (OpenSpec.ofChange fnExactAddStackSpec)

/-- ITS FALSE NEIGHBOUR: 'it returns false'. Refute it at one input. -/
def fnExactAddStackWrong : ChangeSpec := { name := "fnExactAddStack", fn := fun _ => fun
  | [d1, d2, d3] => { results := [.lit (.bool false)], args := [d1, d2, d3] }
  | _ => none }
def FnExactAddStackWrongFalsely : Prop := fnExactAddStackRow.holds Try.pinned (OpenSpec.ofChange fnExactAddStackWrong)

/- THE SECOND FORM. 'bulk': how many values and letters a reading holds, each counted each time it is reached (what is shared counts as often as it is met; a slice's spare places count too). A statement '..UptoSaid' is the law's where the arguments, and the package variables that the reading takes, are together of bulk at most 1048576: NARROWER than '..Said'. Prove '..Said' where nothing that the law and all that it calls make is longer than what came in: it says more and counts as full. Else prove '..UptoSaid'. A law counts once. -/
mutual
def uptoBulk {H : Type} : DataW H → Nat
  | .lit (.string bytes) => bytes.length + 1
  | .lit _ => 1
  | .nil => 1
  | .ptr d => uptoBulk d + 1
  | .slice elems spare => uptoBulkAll elems + uptoBulkAll spare + 1
  | .agg parts => uptoBulkAll parts + 1
  | .iface _ d => uptoBulk d + 1
  | .map entries => uptoBulkEntries entries + 1
  | .held _ => 1
def uptoBulkAll {H : Type} : List (DataW H) → Nat
  | [] => 0
  | d :: r => uptoBulk d + uptoBulkAll r
def uptoBulkEntries {H : Type} : List (Lit × DataW H) → Nat
  | [] => 0
  | x :: r => uptoBulkEntry x + uptoBulkEntries r
def uptoBulkEntry {H : Type} : Lit × DataW H → Nat
  | (.string bytes, d) => bytes.length + uptoBulk d + 1
  | (_, d) => uptoBulk d + 1
 end
def uptoSmall : (H : Type) → List (DataW H) → Bool := fun _ ds => decide (uptoBulkAll ds ≤ 1048576)
def OpenSpec.upto (s : _root_.Go.ChangeSpec) : _root_.Go.OpenSpec := { _root_.Go.OpenSpec.ofChange s with cond := some uptoSmall }

/-- 'laws.FnRingCounts', WHERE WHAT IT READS IS OF BULK AT MOST 1048576: true; the input reads as it did. -/
def fnRingCountsUptoRow : OpenClaim := { program := "ytlapempepfjkpaa", sum := "cddb4940693d981bbf3e5de6a7403993c98ed8910bb1aaf555c9847f6a783630", func := "loop.example/g03314/laws.FnRingCounts", spec := "fnRingCounts", apart := false, narrowed := true }
def FnRingCountsUptoSaid : Prop := fnRingCountsUptoRow.holds Try.pinned (OpenSpec.upto fnRingCountsSpec)

/-- 'laws.FnTimers', WHERE WHAT IT READS IS OF BULK AT MOST 1048576: true; the input reads as it did. -/
def fnTimersUptoRow : OpenClaim := { program := "ytlapempepfjkpaa", sum := "cddb4940693d981bbf3e5de6a7403993c98ed8910bb1aaf555c9847f6a783630", func := "loop.example/g03314/laws.FnTimers", spec := "fnTimers", apart := false, narrowed := true }
def FnTimersUptoSaid : Prop := fnTimersUptoRow.holds Try.pinned (OpenSpec.upto fnTimersSpec)

/-- 'laws.FnInterned', WHERE WHAT IT READS IS OF BULK AT MOST 1048576: true; the input reads as it did. -/
def fnInternedUptoRow : OpenClaim := { program := "ytlapempepfjkpaa", sum := "cddb4940693d981bbf3e5de6a7403993c98ed8910bb1aaf555c9847f6a783630", func := "loop.example/g03314/laws.FnInterned", spec := "fnInterned", apart := false, narrowed := true }
def FnInternedUptoSaid : Prop := fnInternedUptoRow.holds Try.pinned (OpenSpec.upto fnInternedSpec)

/-- 'laws.FnExactStacksOk', WHERE WHAT IT READS IS OF BULK AT MOST 1048576: true; the input reads as it did. -/
def fnExactStacksOkUptoRow : OpenClaim := { program := "ytlapempepfjkpaa", sum := "cddb4940693d981bbf3e5de6a7403993c98ed8910bb1aaf555c9847f6a783630", func := "loop.example/g03314/laws.FnExactStacksOk", spec := "fnExactStacksOk", apart := false, narrowed := true }
def FnExactStacksOkUptoSaid : Prop := fnExactStacksOkUptoRow.holds Try.pinned (OpenSpec.upto fnExactStacksOkSpec)

/-- 'laws.FnExactStackDepth', WHERE WHAT IT READS IS OF BULK AT MOST 1048576: true; the input reads as it did. -/
def fnExactStackDepthUptoRow : OpenClaim := { program := "ytlapempepfjkpaa", sum := "cddb4940693d981bbf3e5de6a7403993c98ed8910bb1aaf555c9847f6a783630", func := "loop.example/g03314/laws.FnExactStackDepth", spec := "fnExactStackDepth", apart := false, narrowed := true }
def FnExactStackDepthUptoSaid : Prop := fnExactStackDepthUptoRow.holds Try.pinned (OpenSpec.upto fnExactStackDepthSpec)

/-- 'laws.FnExactFindStack', WHERE WHAT IT READS IS OF BULK AT MOST 1048576: true; the input reads as it did. -/
def fnExactFindStackUptoRow : OpenClaim := { program := "ytlapempepfjkpaa", sum := "cddb4940693d981bbf3e5de6a7403993c98ed8910bb1aaf555c9847f6a783630", func := "loop.example/g03314/laws.FnExactFindStack", spec := "fnExactFindStack", apart := false, narrowed := true }
def FnExactFindStackUptoSaid : Prop := fnExactFindStackUptoRow.holds Try.pinned (OpenSpec.upto fnExactFindStackSpec)

/-- 'laws.FnExactProfileOk', WHERE WHAT IT READS IS OF BULK AT MOST 1048576: true; the input reads as it did. -/
def fnExactProfileOkUptoRow : OpenClaim := { program := "ytlapempepfjkpaa", sum := "cddb4940693d981bbf3e5de6a7403993c98ed8910bb1aaf555c9847f6a783630", func := "loop.example/g03314/laws.FnExactProfileOk", spec := "fnExactProfileOk", apart := false, narrowed := true }
def FnExactProfileOkUptoSaid : Prop := fnExactProfileOkUptoRow.holds Try.pinned (OpenSpec.upto fnExactProfileOkSpec)

/-- 'laws.FnExactStackAt', WHERE WHAT IT READS IS OF BULK AT MOST 1048576: true; the input reads as it did. -/
def fnExactStackAtUptoRow : OpenClaim := { program := "ytlapempepfjkpaa", sum := "cddb4940693d981bbf3e5de6a7403993c98ed8910bb1aaf555c9847f6a783630", func := "loop.example/g03314/laws.FnExactStackAt", spec := "fnExactStackAt", apart := false, narrowed := true }
def FnExactStackAtUptoSaid : Prop := fnExactStackAtUptoRow.holds Try.pinned (OpenSpec.upto fnExactStackAtSpec)

/-- 'laws.FnExactTotalOf', WHERE WHAT IT READS IS OF BULK AT MOST 1048576: true; the input reads as it did. -/
def fnExactTotalOfUptoRow : OpenClaim := { program := "ytlapempepfjkpaa", sum := "cddb4940693d981bbf3e5de6a7403993c98ed8910bb1aaf555c9847f6a783630", func := "loop.example/g03314/laws.FnExactTotalOf", spec := "fnExactTotalOf", apart := false, narrowed := true }
def FnExactTotalOfUptoSaid : Prop := fnExactTotalOfUptoRow.holds Try.pinned (OpenSpec.upto fnExactTotalOfSpec)

/-- 'laws.FnExactInternStack', WHERE WHAT IT READS IS OF BULK AT MOST 1048576: true; the input reads as it did. -/
def fnExactInternStackUptoRow : OpenClaim := { program := "ytlapempepfjkpaa", sum := "cddb4940693d981bbf3e5de6a7403993c98ed8910bb1aaf555c9847f6a783630", func := "loop.example/g03314/laws.FnExactInternStack", spec := "fnExactInternStack", apart := false, narrowed := true }
def FnExactInternStackUptoSaid : Prop := fnExactInternStackUptoRow.holds Try.pinned (OpenSpec.upto fnExactInternStackSpec)

/-- 'laws.FnExactCountOf', WHERE WHAT IT READS IS OF BULK AT MOST 1048576: true; the input reads as it did. -/
def fnExactCountOfUptoRow : OpenClaim := { program := "ytlapempepfjkpaa", sum := "cddb4940693d981bbf3e5de6a7403993c98ed8910bb1aaf555c9847f6a783630", func := "loop.example/g03314/laws.FnExactCountOf", spec := "fnExactCountOf", apart := false, narrowed := true }
def FnExactCountOfUptoSaid : Prop := fnExactCountOfUptoRow.holds Try.pinned (OpenSpec.upto fnExactCountOfSpec)

/-- 'laws.FnExactAddStack', WHERE WHAT IT READS IS OF BULK AT MOST 1048576: true; the input reads as it did. -/
def fnExactAddStackUptoRow : OpenClaim := { program := "ytlapempepfjkpaa", sum := "cddb4940693d981bbf3e5de6a7403993c98ed8910bb1aaf555c9847f6a783630", func := "loop.example/g03314/laws.FnExactAddStack", spec := "fnExactAddStack", apart := false, narrowed := true }
def FnExactAddStackUptoSaid : Prop := fnExactAddStackUptoRow.holds Try.pinned (OpenSpec.upto fnExactAddStackSpec)

end Rows
end Go.Proofs.Ytlapempepfjkpaa
