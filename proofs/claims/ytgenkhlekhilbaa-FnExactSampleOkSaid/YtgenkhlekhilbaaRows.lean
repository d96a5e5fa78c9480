/-
  No cell of these rows narrows 'for every input' (looked for: loops, veiled, ifaces, maps, wideKeys, modest, calm, conditions, laid).
  DERIVED. THE GIVEN ROWS OF THIS SEAT. 12 by the template 'for every input the law returns true; each argument reads behind the call as it read before'; 0 by the template 'total and deterministic' (their statements: YtgenkhlekhilbaaTotals.lean).
  GIVEN WITH THE SEED: the statements are not yours to turn. If you find one false, say at which input.
  Laid BY PROGRAM, IN A SANDBOX (cutbox-rows.mjs): the forced cells as the released guide's own fill.sh prints them over the translation 927d821fbd93b5d1… (all of the seat's roots in one cut). By AI agents, Wed Nov 11 2026. No macro, syntax, notation, axiom, sorry.
-/
import Derived.Test.YtgenkhlekhilbaaChecked
import GoSem.Claim
import GoSem.ClaimJoined
import GoSem.ClaimMapViews
import Derived.JoinedTies
import Derived.KernelRfl
namespace Go.Proofs.Ytgenkhlekhilbaa
/- THE CELL 'sum', in the pinned program and in every row, IS THE sha256 OF THE DUMP (.gsa) THAT YtgenkhlekhilbaaProg.lean LOADS. Nothing in Lean hashes anything: it is a label: what it is worth is what the hold of that sum in a sandbox is worth. -/
noncomputable def Try.pinned : Pinned := { name := "ytgenkhlekhilbaa", sum := "927d821fbd93b5d150cbf9f6c98b94d47867093c035a0c2ec4ba0a66fe8f9589", checked := Try.checked }
namespace Rows
def none {H : Type} : Left H := { results := [], args := [] }

/-- 'laws.FnExactNextState': WHATEVER THE INPUT: true; the input reads as it did. -/
def fnExactNextStateSpec : ChangeSpec := { name := "fnExactNextState", fn := fun _ => fun
  | [d] => { results := [.lit (.bool true)], args := [d] }
  | _ => none }
def fnExactNextStateRow : OpenClaim := { program := "ytgenkhlekhilbaa", sum := "927d821fbd93b5d150cbf9f6c98b94d47867093c035a0c2ec4ba0a66fe8f9589", func := "loop.example/g03314/laws.FnExactNextState", spec := "fnExactNextState", apart := false }
def FnExactNextStateSaid : Prop := fnExactNextStateRow.holds Try.pinned (OpenSpec.ofChange fnExactNextStateSpec)

/-- ITS FALSE NEIGHBOUR: 'it returns false'. Refute it at one input. -/
def fnExactNextStateWrong : ChangeSpec := { name := "fnExactNextState", fn := fun _ => fun
  | [d] => { results := [.lit (.bool false)], args := [d] }
  | _ => none }
def FnExactNextStateWrongFalsely : Prop := fnExactNextStateRow.holds Try.pinned (OpenSpec.ofChange fnExactNextStateWrong)

/-- 'laws.FnExactTimerOk': WHATEVER THE INPUT: true; the input reads as it did. -/
def fnExactTimerOkSpec : ChangeSpec := { name := "fnExactTimerOk", fn := fun _ => fun
  | [d] => { results := [.lit (.bool true)], args := [d] }
  | _ => none }
def fnExactTimerOkRow : OpenClaim := { program := "ytgenkhlekhilbaa", sum := "927d821fbd93b5d150cbf9f6c98b94d47867093c035a0c2ec4ba0a66fe8f9589", func := "loop.example/g03314/laws.FnExactTimerOk", spec := "fnExactTimerOk", apart := false }
def FnExactTimerOkSaid : Prop := fnExactTimerOkRow.holds Try.pinned (OpenSpec.ofChange fnExactTimerOkSpec)

/-- ITS FALSE NEIGHBOUR: 'it returns false'. Refute it at one input. -/
def fnExactTimerOkWrong : ChangeSpec := { name := "fnExactTimerOk", fn := fun _ => fun
  | [d] => { results := [.lit (.bool false)], args := [d] }
  | _ => none }
def FnExactTimerOkWrongFalsely : Prop := fnExactTimerOkRow.holds Try.pinned (OpenSpec.ofChange fnExactTimerOkWrong)

/-- 'laws.FnExactNewTimer': WHATEVER THE INPUT: true; the input reads as it did. -/
def fnExactNewTimerSpec : ChangeSpec := { name := "fnExactNewTimer", fn := fun _ => fun
  | [d1, d2, d3] => { results := [.lit (.bool true)], args := [d1, d2, d3] }
  | _ => none }
def fnExactNewTimerRow : OpenClaim := { program := "ytgenkhlekhilbaa", sum := "927d821fbd93b5d150cbf9f6c98b94d47867093c035a0c2ec4ba0a66fe8f9589", func := "loop.example/g03314/laws.FnExactNewTimer", spec := "fnExactNewTimer", apart := false }
def FnExactNewTimerSaid : Prop := fnExactNewTimerRow.holds Try.pinned (OpenSpec.ofChange fnExactNewTimerSpec)

/-- ITS FALSE NEIGHBOUR: 'it returns false'. Refute it at one input. -/
def fnExactNewTimerWrong : ChangeSpec := { name := "fnExactNewTimer", fn := fun _ => fun
  | [d1, d2, d3] => { results := [.lit (.bool false)], args := [d1, d2, d3] }
  | _ => none }
def FnExactNewTimerWrongFalsely : Prop := fnExactNewTimerRow.holds Try.pinned (OpenSpec.ofChange fnExactNewTimerWrong)

/-- 'laws.FnExactTickTimer': WHATEVER THE INPUT: true; the input reads as it did. -/
def fnExactTickTimerSpec : ChangeSpec := { name := "fnExactTickTimer", fn := fun _ => fun
  | [d] => { results := [.lit (.bool true)], args := [d] }
  | _ => none }
def fnExactTickTimerRow : OpenClaim := { program := "ytgenkhlekhilbaa", sum := "927d821fbd93b5d150cbf9f6c98b94d47867093c035a0c2ec4ba0a66fe8f9589", func := "loop.example/g03314/laws.FnExactTickTimer", spec := "fnExactTickTimer", apart := false }
def FnExactTickTimerSaid : Prop := fnExactTickTimerRow.holds Try.pinned (OpenSpec.ofChange fnExactTickTimerSpec)

/-- ITS FALSE NEIGHBOUR: 'it returns false'. Refute it at one input. -/
def fnExactTickTimerWrong : ChangeSpec := { name := "fnExactTickTimer", fn := fun _ => fun
  | [d] => { results := [.lit (.bool false)], args := [d] }
  | _ => none }
def FnExactTickTimerWrongFalsely : Prop := fnExactTickTimerRow.holds Try.pinned (OpenSpec.ofChange fnExactTickTimerWrong)

/-- 'laws.FnExactRingOk': WHATEVER THE INPUT: true; the input reads as it did. -/
def fnExactRingOkSpec : ChangeSpec := { name := "fnExactRingOk", fn := fun _ => fun
  | [d] => { results := [.lit (.bool true)], args := [d] }
  | _ => none }
def fnExactRingOkRow : OpenClaim := { program := "ytgenkhlekhilbaa", sum := "927d821fbd93b5d150cbf9f6c98b94d47867093c035a0c2ec4ba0a66fe8f9589", func := "loop.example/g03314/laws.FnExactRingOk", spec := "fnExactRingOk", apart := false }
def FnExactRingOkSaid : Prop := fnExactRingOkRow.holds Try.pinned (OpenSpec.ofChange fnExactRingOkSpec)

/-- ITS FALSE NEIGHBOUR: 'it returns false'. Refute it at one input. -/
def fnExactRingOkWrong : ChangeSpec := { name := "fnExactRingOk", fn := fun _ => fun
  | [d] => { results := [.lit (.bool false)], args := [d] }
  | _ => none }
def FnExactRingOkWrongFalsely : Prop := fnExactRingOkRow.holds Try.pinned (OpenSpec.ofChange fnExactRingOkWrong)

/-- 'laws.FnExactRingBytes': WHATEVER THE INPUT: true; the input reads as it did. -/
def fnExactRingBytesSpec : ChangeSpec := { name := "fnExactRingBytes", fn := fun _ => fun
  | [d] => { results := [.lit (.bool true)], args := [d] }
  | _ => none }
def fnExactRingBytesRow : OpenClaim := { program := "ytgenkhlekhilbaa", sum := "927d821fbd93b5d150cbf9f6c98b94d47867093c035a0c2ec4ba0a66fe8f9589", func := "loop.example/g03314/laws.FnExactRingBytes", spec := "fnExactRingBytes", apart := false }
def FnExactRingBytesSaid : Prop := fnExactRingBytesRow.holds Try.pinned (OpenSpec.ofChange fnExactRingBytesSpec)

/-- ITS FALSE NEIGHBOUR: 'it returns false'. Refute it at one input. -/
def fnExactRingBytesWrong : ChangeSpec := { name := "fnExactRingBytes", fn := fun _ => fun
  | [d] => { results := [.lit (.bool false)], args := [d] }
  | _ => none }
def FnExactRingBytesWrongFalsely : Prop := fnExactRingBytesRow.holds Try.pinned (OpenSpec.ofChange fnExactRingBytesWrong)

/-- 'laws.FnExactFireTicks': WHATEVER THE INPUT: true; the input reads as it did. -/
def fnExactFireTicksSpec : ChangeSpec := { name := "fnExactFireTicks", fn := fun _ => fun
  | [d1, d2] => { results := [.lit (.bool true)], args := [d1, d2] }
  | _ => none }
def fnExactFireTicksRow : OpenClaim := { program := "ytgenkhlekhilbaa", sum := "927d821fbd93b5d150cbf9f6c98b94d47867093c035a0c2ec4ba0a66fe8f9589", func := "loop.example/g03314/laws.FnExactFireTicks", spec := "fnExactFireTicks", apart := false }
def FnExactFireTicksSaid : Prop := fnExactFireTicksRow.holds Try.pinned (OpenSpec.ofChange fnExactFireTicksSpec)

/-- ITS FALSE NEIGHBOUR: 'it returns false'. Refute it at one input. -/
def fnExactFireTicksWrong : ChangeSpec := { name := "fnExactFireTicks", fn := fun _ => fun
  | [d1, d2] => { results := [.lit (.bool false)], args := [d1, d2] }
  | _ => none }
def FnExactFireTicksWrongFalsely : Prop := fnExactFireTicksRow.holds Try.pinned (OpenSpec.ofChange fnExactFireTicksWrong)

/-- 'laws.FnRingCounts': WHATEVER THE INPUT: true; the input reads as it did. -/
def fnRingCountsSpec : ChangeSpec := { name := "fnRingCounts", fn := fun _ => fun
  | [d] => { results := [.lit (.bool true)], args := [d] }
  | _ => none }
def fnRingCountsRow : OpenClaim := { program := "ytgenkhlekhilbaa", sum := "927d821fbd93b5d150cbf9f6c98b94d47867093c035a0c2ec4ba0a66fe8f9589", func := "loop.example/g03314/laws.FnRingCounts", spec := "fnRingCounts", apart := false }
def FnRingCountsSaid : Prop := fnRingCountsRow.holds Try.pinned (OpenSpec.ofChange fnRingCountsSpec)

/-- ITS FALSE NEIGHBOUR: 'it returns false'. Refute it at one input. -/
def fnRingCountsWrong : ChangeSpec := { name := "fnRingCounts", fn := fun _ => fun
  | [d] => { results := [.lit (.bool false)], args := [d] }
  | _ => none }
def FnRingCountsWrongFalsely : Prop := fnRingCountsRow.holds Try.pinned (OpenSpec.ofChange fnRingCountsWrong)

/-- 'laws.FnTimers': WHATEVER THE INPUT: true; the input reads as it did. -/
def fnTimersSpec : ChangeSpec := { name := "fnTimers", fn := fun _ => fun
  | [d] => { results := [.lit (.bool true)], args := [d] }
  | _ => none }
def fnTimersRow : OpenClaim := { program := "ytgenkhlekhilbaa", sum := "927d821fbd93b5d150cbf9f6c98b94d47867093c035a0c2ec4ba0a66fe8f9589", func := "loop.example/g03314/laws.FnTimers", spec := "fnTimers", apart := false }
def FnTimersSaid : Prop := fnTimersRow.holds Try.pinned (OpenSpec.ofChange fnTimersSpec)

/-- ITS FALSE NEIGHBOUR: 'it returns false'. Refute it at one input. -/
def fnTimersWrong : ChangeSpec := { name := "fnTimers", fn := fun _ => fun
  | [d] => { results := [.lit (.bool false)], args := [d] }
  | _ => none }
def FnTimersWrongFalsely : Prop := fnTimersRow.holds Try.pinned (OpenSpec.ofChange fnTimersWrong)

/-- 'laws.FnExactSampleOk': WHATEVER THE INPUT: true; the input reads as it did. -/
def fnExactSampleOkSpec : ChangeSpec := { name := "fnExactSampleOk", fn := fun _ => fun
  | [d] => { results := [.lit (.bool true)], args := [d] }
  | _ => none }
def fnExactSampleOkRow : OpenClaim := { program := "ytgenkhlekhilbaa", sum := "927d821fbd93b5d150cbf9f6c98b94d47867093c035a0c2ec4ba0a66fe8f9589", func := "loop.example/g03314/laws.FnExactSampleOk", spec := "fnExactSampleOk", apart := false }
def FnExactSampleOkSaid : Prop := fnExactSampleOkRow.holds Try.pinned (OpenSpec.ofChange fnExactSampleOkSpec)

/-- ITS FALSE NEIGHBOUR: 'it returns false'. Refute it at one input. -/
def fnExactSampleOkWrong : ChangeSpec := { name := "fnExactSampleOk", fn := fun _ => fun
  | [d] => { results := [.lit (.bool false)], args := [d] }
  | _ => none }
def FnExactSampleOkWrongFalsely : Prop := fnExactSampleOkRow.holds Try.pinned (OpenSpec.ofChange fnExactSampleOkWrong)

/-- 'laws.FnExactTakeRecords': WHATEVER THE INPUT: true; the input reads as it did. -/
def fnExactTakeRecordsSpec : ChangeSpec := { name := "fnExactTakeRecords", fn := fun _ => fun
  | [d1, d2] => { results := [.lit (.bool true)], args := [d1, d2] }
  | _ => none }
def fnExactTakeRecordsRow : OpenClaim := { program := "ytgenkhlekhilbaa", sum := "927d821fbd93b5d150cbf9f6c98b94d47867093c035a0c2ec4ba0a66fe8f9589", func := "loop.example/g03314/laws.FnExactTakeRecords", spec := "fnExactTakeRecords", apart := false }
def FnExactTakeRecordsSaid : Prop := fnExactTakeRecordsRow.holds Try.pinned (OpenSpec.ofChange fnExactTakeRecordsSpec)

/-- ITS FALSE NEIGHBOUR: 'it returns false'. Refute it at one input. -/
def fnExactTakeRecordsWrong : ChangeSpec := { name := "fnExactTakeRecords", fn := fun _ => fun
  | [d1, d2] => { results := [.lit (.bool false)], args := [d1, d2] }
  | _ => none }
def FnExactTakeRecordsWrongFalsely : Prop := fnExactTakeRecordsRow.holds Try.pinned (OpenSpec.ofChange fnExactTakeRecordsWrong)

/-- 'laws.FnExactPutRecord': WHATEVER THE INPUT: true; the input reads as it did. -/
def fnExactPutRecordSpec : ChangeSpec := { name := "fnExactPutRecord", fn := fun _ => fun
  | [d1, d2] => { results := [.lit (.bool true)], args := [d1, d2] }
  | _ => none }
def fnExactPutRecordRow : OpenClaim := { program := "ytgenkhlekhilbaa", sum := "927d821fbd93b5d150cbf9f6c98b94d47867093c035a0c2ec4ba0a66fe8f9589", func := "loop.example/g03314/laws.FnExactPutRecord", spec := "fnExactPutRecord", apart := false }
def FnExactPutRecordSaid : Prop := fnExactPutRecordRow.holds Try.pinned (OpenSpec.ofChange fnExactPutRecordSpec)

/-- ITS FALSE NEIGHBOUR: 'it returns false'. Refute it at one input. -/
def fnExactPutRecordWrong : ChangeSpec := { name := "fnExactPutRecord", fn := fun _ => fun
  | [d1, d2] => { results := [.lit (.bool false)], args := [d1, d2] }
  | _ => none }
def FnExactPutRecordWrongFalsely : Prop := fnExactPutRecordRow.holds Try.pinned (OpenSpec.ofChange fnExactPutRecordWrong)

/- THE SECOND FORM. 'bulk': how many values and letters a reading holds, each counted each time it is reached (what is shared counts as often as it is met; a slice's spare places count too). A statement '..UptoSaid' is the law's where the arguments, and the package variables that the reading takes, are together of bulk at most 1048576: NARROWER than '..Said'. Prove '..Said' where nothing that the law and all that it calls make is longer than what came in: it says more and counts as full. Else prove '..UptoSaid'. A law counts once. -/
mutual
def uptoBulk {H : Type} : DataW H → Nat
  | .lit (.string bytes) => bytes.length + 1
  | .lit _ => 1
  | .nil => 1
  | .ptr d => uptoBulk d + 1
  | .slice elems spare => uptoBulkAll elems + uptoBulkAll spare + 1
  | .agg parts => uptoBulkAll parts + 1
  | .iface _ d => uptoBulk d + 1
  | .map entries => uptoBulkEntries entries + 1
  | .held _ => 1
def uptoBulkAll {H : Type} : List (DataW H) → Nat
  | [] => 0
  | d :: r => uptoBulk d + uptoBulkAll r
def uptoBulkEntries {H : Type} : List (Lit × DataW H) → Nat
  | [] => 0
  | x :: r => uptoBulkEntry x + uptoBulkEntries r
def uptoBulkEntry {H : Type} : Lit × DataW H → Nat
  | (.string bytes, d) => bytes.length + uptoBulk d + 1
  | (_, d) => uptoBulk d + 1
 end
def uptoSmall : (H : Type) → List (DataW H) → Bool := fun _ ds => decide (uptoBulkAll ds ≤ 1048576)
def OpenSpec.upto (s : _root_.Go.ChangeSpec) : _root_.Go.OpenSpec := { _root_.Go.OpenSpec.ofChange s with cond := some uptoSmall }

/-- 'laws.FnExactNextState', WHERE WHAT IT READS IS OF BULK AT MOST 1048576: true; the input reads as it did. -/
def fnExactNextStateUptoRow : OpenClaim := { program := "ytgenkhlekhilbaa", sum := "927d821fbd93b5d150cbf9f6c98b94d47867093c035a0c2ec4ba0a66fe8f9589", func := "loop.example/g03314/laws.FnExactNextState", spec := "fnExactNextState", apart := false, narrowed := true }
def FnExactNextStateUptoSaid : Prop := fnExactNextStateUptoRow.holds Try.pinned (OpenSpec.upto fnExactNextStateSpec)

/-- 'laws.FnExactTimerOk', WHERE WHAT IT READS IS OF BULK AT MOST 1048576: true; the input reads as it did. -/
def fnExactTimerOkUptoRow : OpenClaim := { program := "ytgenkhlekhilbaa", sum := "927d821fbd93b5d150cbf9f6c98b94d47867093c035a0c2ec4ba0a66fe8f9589", func := "loop.example/g03314/laws.FnExactTimerOk", spec := "fnExactTimerOk", apart := false, narrowed := true }
def FnExactTimerOkUptoSaid : Prop := fnExactTimerOkUptoRow.holds Try.pinned (OpenSpec.upto fnExactTimerOkSpec)

/-- 'laws.FnExactNewTimer', WHERE WHAT IT READS IS OF BULK AT MOST 1048576: true; the input reads as it did. -/
def fnExactNewTimerUptoRow : OpenClaim := { program := "ytgenkhlekhilbaa", sum := "927d821fbd93b5d150cbf9f6c98b94d47867093c035a0c2ec4ba0a66fe8f9589", func := "loop.example/g03314/laws.FnExactNewTimer", spec := "fnExactNewTimer", apart := false, narrowed := true }
def FnExactNewTimerUptoSaid : Prop := fnExactNewTimerUptoRow.holds Try.pinned (OpenSpec.upto fnExactNewTimerSpec)

/-- 'laws.FnExactTickTimer', WHERE WHAT IT READS IS OF BULK AT MOST 1048576: true; the input reads as it did. -/
def fnExactTickTimerUptoRow : OpenClaim := { program := "ytgenkhlekhilbaa", sum := "927d821fbd93b5d150cbf9f6c98b94d47867093c035a0c2ec4ba0a66fe8f9589", func := "loop.example/g03314/laws.FnExactTickTimer", spec := "fnExactTickTimer", apart := false, narrowed := true }
def FnExactTickTimerUptoSaid : Prop := fnExactTickTimerUptoRow.holds Try.pinned (OpenSpec.upto fnExactTickTimerSpec)

/-- 'laws.FnExactRingOk', WHERE WHAT IT READS IS OF BULK AT MOST 1048576: true; the input reads as it did. -/
def fnExactRingOkUptoRow : OpenClaim := { program := "ytgenkhlekhilbaa", sum := "927d821fbd93b5d150cbf9f6c98b94d47867093c035a0c2ec4ba0a66fe8f9589", func := "loop.example/g03314/laws.FnExactRingOk", spec := "fnExactRingOk", apart := false, narrowed := true }
def FnExactRingOkUptoSaid : Prop := fnExactRingOkUptoRow.holds Try.pinned (OpenSpec.upto fnExactRingOkSpec)

/-- 'laws.FnExactRingBytes', WHERE WHAT IT READS IS OF BULK AT MOST 1048576: true; the input reads as it did. -/
def fnExactRingBytesUptoRow : OpenClaim := { program := "ytgenkhlekhilbaa", sum := "927d821fbd93b5d150cbf9f6c98b94d47867093c035a0c2ec4ba0a66fe8f9589", func := "loop.example/g03314/laws.FnExactRingBytes", spec := "fnExactRingBytes", apart := false, narrowed := true }
def FnExactRingBytesUptoSaid : Prop := fnExactRingBytesUptoRow.holds Try.pinned (OpenSpec.upto fnExactRingBytesSpec)

/-- 'laws.FnExactFireTicks', WHERE WHAT IT READS IS OF BULK AT MOST 1048576: true; the input reads as it did. -/
def fnExactFireTicksUptoRow : OpenClaim := { program := "ytgenkhlekhilbaa", sum := "927d821fbd93b5d150cbf9f6c98b94d47867093c035a0c2ec4ba0a66fe8f9589", func := "loop.example/g03314/laws.FnExactFireTicks", spec := "fnExactFireTicks", apart := false, narrowed := true }
def FnExactFireTicksUptoSaid : Prop := fnExactFireTicksUptoRow.holds Try.pinned (OpenSpec.upto fnExactFireTicksSpec)

/-- 'laws.FnRingCounts', WHERE WHAT IT READS IS OF BULK AT MOST 1048576: true; the input reads as it did. -/
def fnRingCountsUptoRow : OpenClaim := { program := "ytgenkhlekhilbaa", sum := "927d821fbd93b5d150cbf9f6c98b94d47867093c035a0c2ec4ba0a66fe8f9589", func := "loop.example/g03314/laws.FnRingCounts", spec := "fnRingCounts", apart := false, narrowed := true }
def FnRingCountsUptoSaid : Prop := fnRingCountsUptoRow.holds Try.pinned (OpenSpec.upto fnRingCountsSpec)

/-- 'laws.FnTimers', WHERE WHAT IT READS IS OF BULK AT MOST 1048576: true; the input reads as it did. -/
def fnTimersUptoRow : OpenClaim := { program := "ytgenkhlekhilbaa", sum := "927d821fbd93b5d150cbf9f6c98b94d47867093c035a0c2ec4ba0a66fe8f9589", func := "loop.example/g03314/laws.FnTimers", spec := "fnTimers", apart := false, narrowed := true }
def FnTimersUptoSaid : Prop := fnTimersUptoRow.holds Try.pinned (OpenSpec.upto fnTimersSpec)

/-- 'laws.FnExactSampleOk', WHERE WHAT IT READS IS OF BULK AT MOST 1048576: true; the input reads as it did. -/
def fnExactSampleOkUptoRow : OpenClaim := { program := "ytgenkhlekhilbaa", sum := "927d821fbd93b5d150cbf9f6c98b94d47867093c035a0c2ec4ba0a66fe8f9589", func := "loop.example/g03314/laws.FnExactSampleOk", spec := "fnExactSampleOk", apart := false, narrowed := true }
def FnExactSampleOkUptoSaid : Prop := fnExactSampleOkUptoRow.holds Try.pinned (OpenSpec.upto fnExactSampleOkSpec)

/-- 'laws.FnExactTakeRecords', WHERE WHAT IT READS IS OF BULK AT MOST 1048576: true; the input reads as it did. -/
def fnExactTakeRecordsUptoRow : OpenClaim := { program := "ytgenkhlekhilbaa", sum := "927d821fbd93b5d150cbf9f6c98b94d47867093c035a0c2ec4ba0a66fe8f9589", func := "loop.example/g03314/laws.FnExactTakeRecords", spec := "fnExactTakeRecords", apart := false, narrowed := true }
def FnExactTakeRecordsUptoSaid : Prop := fnExactTakeRecordsUptoRow.holds Try.pinned (OpenSpec.upto fnExactTakeRecordsSpec)

/-- 'laws.FnExactPutRecord', WHERE WHAT IT READS IS OF BULK AT MOST 1048576: true; the input reads as it did. -/
def fnExactPutRecordUptoRow : OpenClaim := { program := "ytgenkhlekhilbaa", sum := "927d821fbd93b5d150cbf9f6c98b94d47867093c035a0c2ec4ba0a66fe8f9589", func := "loop.example/g03314/laws.FnExactPutRecord", spec := "fnExactPutRecord", apart := false, narrowed := true }
def FnExactPutRecordUptoSaid : Prop := fnExactPutRecordUptoRow.holds Try.pinned (OpenSpec.upto fnExactPutRecordSpec)

end Rows
end Go.Proofs.Ytgenkhlekhilbaa
