/-
  No cell of these rows narrows 'for every input' (looked for: loops, veiled, ifaces, maps, wideKeys, modest, calm, conditions, laid).
  DERIVED. THE GIVEN ROWS OF THIS SEAT. 7 by the template 'for every input the law returns true; each argument reads behind the call as it read before'; 0 by the template 'total and deterministic' (their statements: YtbhobjepjaeffaaTotals.lean).
  GIVEN WITH THE SEED: the statements are not yours to turn. If you find one false, say at which input.
  Laid BY PROGRAM, IN A SANDBOX (cutbox-rows.mjs): the forced cells as the released guide's own fill.sh prints them over the translation 17d8e76433a95ce8… (all of the seat's roots in one cut). By AI agents, Wed Nov 11 2026. No macro, syntax, notation, axiom, sorry.
-/
import Derived.Test.YtbhobjepjaeffaaChecked
import GoSem.Claim
import GoSem.ClaimJoined
import GoSem.ClaimMapViews
import Derived.JoinedTies
import Derived.KernelRfl
namespace Go.Proofs.Ytbhobjepjaeffaa
/- THE CELL 'sum', in the pinned program and in every row, IS THE sha256 OF THE DUMP (.gsa) THAT YtbhobjepjaeffaaProg.lean LOADS. Nothing in Lean hashes anything: it is a label: what it is worth is what the hold of that sum in a sandbox is worth. -/
noncomputable def Try.pinned : Pinned := { name := "ytbhobjepjaeffaa", sum := "17d8e76433a95ce8593b8b49fde69fc2dc3deb8a15ce7ec8ac3f7e384ac579d7", checked := Try.checked }
namespace Rows
def none {H : Type} : Left H := { results := [], args := [] }

/-- 'laws.FnExactProcessOk': WHATEVER THE INPUT: true; the input reads as it did. -/
def fnExactProcessOkSpec : ChangeSpec := { name := "fnExactProcessOk", fn := fun _ => fun
  | [d] => { results := [.lit (.bool true)], args := [d] }
  | _ => none }
def fnExactProcessOkRow : OpenClaim := { program := "ytbhobjepjaeffaa", sum := "17d8e76433a95ce8593b8b49fde69fc2dc3deb8a15ce7ec8ac3f7e384ac579d7", func := "loop.example/g03314/laws.FnExactProcessOk", spec := "fnExactProcessOk", apart := false }
def FnExactProcessOkSaid : Prop := fnExactProcessOkRow.holds Try.pinned (OpenSpec.ofChange fnExactProcessOkSpec)

/-- ITS FALSE NEIGHBOUR: 'it returns false'. Refute it at one input. -/
def fnExactProcessOkWrong : ChangeSpec := { name := "fnExactProcessOk", fn := fun _ => fun
  | [d] => { results := [.lit (.bool false)], args := [d] }
  | _ => none }
def FnExactProcessOkWrongFalsely : Prop := fnExactProcessOkRow.holds Try.pinned (OpenSpec.ofChange fnExactProcessOkWrong)

/-- 'laws.FnExactProcessDone': WHATEVER THE INPUT: true; the input reads as it did. -/
def fnExactProcessDoneSpec : ChangeSpec := { name := "fnExactProcessDone", fn := fun _ => fun
  | [d] => { results := [.lit (.bool true)], args := [d] }
  | _ => none }
def fnExactProcessDoneRow : OpenClaim := { program := "ytbhobjepjaeffaa", sum := "17d8e76433a95ce8593b8b49fde69fc2dc3deb8a15ce7ec8ac3f7e384ac579d7", func := "loop.example/g03314/laws.FnExactProcessDone", spec := "fnExactProcessDone", apart := false }
def FnExactProcessDoneSaid : Prop := fnExactProcessDoneRow.holds Try.pinned (OpenSpec.ofChange fnExactProcessDoneSpec)

/-- ITS FALSE NEIGHBOUR: 'it returns false'. Refute it at one input. -/
def fnExactProcessDoneWrong : ChangeSpec := { name := "fnExactProcessDone", fn := fun _ => fun
  | [d] => { results := [.lit (.bool false)], args := [d] }
  | _ => none }
def FnExactProcessDoneWrongFalsely : Prop := fnExactProcessDoneRow.holds Try.pinned (OpenSpec.ofChange fnExactProcessDoneWrong)

/-- 'laws.FnExactNewProcess': WHATEVER THE INPUT: true; the input reads as it did. -/
def fnExactNewProcessSpec : ChangeSpec := { name := "fnExactNewProcess", fn := fun _ => fun
  | [d1, d2, d3] => { results := [.lit (.bool true)], args := [d1, d2, d3] }
  | _ => none }
def fnExactNewProcessRow : OpenClaim := { program := "ytbhobjepjaeffaa", sum := "17d8e76433a95ce8593b8b49fde69fc2dc3deb8a15ce7ec8ac3f7e384ac579d7", func := "loop.example/g03314/laws.FnExactNewProcess", spec := "fnExactNewProcess", apart := false }
def FnExactNewProcessSaid : Prop := fnExactNewProcessRow.holds Try.pinned (OpenSpec.ofChange fnExactNewProcessSpec)

/-- ITS FALSE NEIGHBOUR: 'it returns false'. Refute it at one input. -/
def fnExactNewProcessWrong : ChangeSpec := { name := "fnExactNewProcess", fn := fun _ => fun
  | [d1, d2, d3] => { results := [.lit (.bool false)], args := [d1, d2, d3] }
  | _ => none }
def FnExactNewProcessWrongFalsely : Prop := fnExactNewProcessRow.holds Try.pinned (OpenSpec.ofChange fnExactNewProcessWrong)

/-- 'laws.FnExactAgentOk': WHATEVER THE INPUT: true; the input reads as it did. -/
def fnExactAgentOkSpec : ChangeSpec := { name := "fnExactAgentOk", fn := fun _ => fun
  | [d] => { results := [.lit (.bool true)], args := [d] }
  | _ => none }
def fnExactAgentOkRow : OpenClaim := { program := "ytbhobjepjaeffaa", sum := "17d8e76433a95ce8593b8b49fde69fc2dc3deb8a15ce7ec8ac3f7e384ac579d7", func := "loop.example/g03314/laws.FnExactAgentOk", spec := "fnExactAgentOk", apart := false }
def FnExactAgentOkSaid : Prop := fnExactAgentOkRow.holds Try.pinned (OpenSpec.ofChange fnExactAgentOkSpec)

/-- ITS FALSE NEIGHBOUR: 'it returns false'. Refute it at one input. -/
def fnExactAgentOkWrong : ChangeSpec := { name := "fnExactAgentOk", fn := fun _ => fun
  | [d] => { results := [.lit (.bool false)], args := [d] }
  | _ => none }
def FnExactAgentOkWrongFalsely : Prop := fnExactAgentOkRow.holds Try.pinned (OpenSpec.ofChange fnExactAgentOkWrong)

/-- 'laws.FnExactTakeSample': WHATEVER THE INPUT: true; the input reads as it did. -/
def fnExactTakeSampleSpec : ChangeSpec := { name := "fnExactTakeSample", fn := fun _ => fun
  | [d1, d2, d3] => { results := [.lit (.bool true)], args := [d1, d2, d3] }
  | _ => none }
def fnExactTakeSampleRow : OpenClaim := { program := "ytbhobjepjaeffaa", sum := "17d8e76433a95ce8593b8b49fde69fc2dc3deb8a15ce7ec8ac3f7e384ac579d7", func := "loop.example/g03314/laws.FnExactTakeSample", spec := "fnExactTakeSample", apart := false }
def FnExactTakeSampleSaid : Prop := fnExactTakeSampleRow.holds Try.pinned (OpenSpec.ofChange fnExactTakeSampleSpec)

/-- ITS FALSE NEIGHBOUR: 'it returns false'. Refute it at one input. -/
def fnExactTakeSampleWrong : ChangeSpec := { name := "fnExactTakeSample", fn := fun _ => fun
  | [d1, d2, d3] => { results := [.lit (.bool false)], args := [d1, d2, d3] }
  | _ => none }
def FnExactTakeSampleWrongFalsely : Prop := fnExactTakeSampleRow.holds Try.pinned (OpenSpec.ofChange fnExactTakeSampleWrong)

/-- 'laws.FnExactStepProcess': WHATEVER THE INPUT: true; the input reads as it did. -/
def fnExactStepProcessSpec : ChangeSpec := { name := "fnExactStepProcess", fn := fun _ => fun
  | [d] => { results := [.lit (.bool true)], args := [d] }
  | _ => none }
def fnExactStepProcessRow : OpenClaim := { program := "ytbhobjepjaeffaa", sum := "17d8e76433a95ce8593b8b49fde69fc2dc3deb8a15ce7ec8ac3f7e384ac579d7", func := "loop.example/g03314/laws.FnExactStepProcess", spec := "fnExactStepProcess", apart := false }
def FnExactStepProcessSaid : Prop := fnExactStepProcessRow.holds Try.pinned (OpenSpec.ofChange fnExactStepProcessSpec)

/-- ITS FALSE NEIGHBOUR: 'it returns false'. Refute it at one input. -/
def fnExactStepProcessWrong : ChangeSpec := { name := "fnExactStepProcess", fn := fun _ => fun
  | [d] => { results := [.lit (.bool false)], args := [d] }
  | _ => none }
def FnExactStepProcessWrongFalsely : Prop := fnExactStepProcessRow.holds Try.pinned (OpenSpec.ofChange fnExactStepProcessWrong)

/-- 'laws.FnExactRunProcess': WHATEVER THE INPUT: true; the input reads as it did. -/
def fnExactRunProcessSpec : ChangeSpec := { name := "fnExactRunProcess", fn := fun _ => fun
  | [d1, d2] => { results := [.lit (.bool true)], args := [d1, d2] }
  | _ => none }
def fnExactRunProcessRow : OpenClaim := { program := "ytbhobjepjaeffaa", sum := "17d8e76433a95ce8593b8b49fde69fc2dc3deb8a15ce7ec8ac3f7e384ac579d7", func := "loop.example/g03314/laws.FnExactRunProcess", spec := "fnExactRunProcess", apart := false }
def FnExactRunProcessSaid : Prop := fnExactRunProcessRow.holds Try.pinned (OpenSpec.ofChange fnExactRunProcessSpec)

/-- ITS FALSE NEIGHBOUR: 'it returns false'. Refute it at one input. -/
def fnExactRunProcessWrong : ChangeSpec := { name := "fnExactRunProcess", fn := fun _ => fun
  | [d1, d2] => { results := [.lit (.bool false)], args := [d1, d2] }
  | _ => none }
def FnExactRunProcessWrongFalsely : Prop := fnExactRunProcessRow.holds Try.pinned (OpenSpec.ofChange fnExactRunProcessWrong)

/- THE SECOND FORM. 'bulk': how many values and letters a reading holds, each counted each time it is reached (what is shared counts as often as it is met; a slice's spare places count too). A statement '..UptoSaid' is the law's where the arguments, and the package variables that the reading takes, are together of bulk at most 1048576: NARROWER than '..Said'. Prove '..Said' where nothing that the law and all that it calls make is longer than what came in: it says more and counts as full. Else prove '..UptoSaid'. A law counts once. -/
mutual
def uptoBulk {H : Type} : DataW H → Nat
  | .lit (.string bytes) => bytes.length + 1
  | .lit _ => 1
  | .nil => 1
  | .ptr d => uptoBulk d + 1
  | .slice elems spare => uptoBulkAll elems + uptoBulkAll spare + 1
  | .agg parts => uptoBulkAll parts + 1
  | .iface _ d => uptoBulk d + 1
  | .map entries => uptoBulkEntries entries + 1
  | .held _ => 1
def uptoBulkAll {H : Type} : List (DataW H) → Nat
  | [] => 0
  | d :: r => uptoBulk d + uptoBulkAll r
def uptoBulkEntries {H : Type} : List (Lit × DataW H) → Nat
  | [] => 0
  | x :: r => uptoBulkEntry x + uptoBulkEntries r
def uptoBulkEntry {H : Type} : Lit × DataW H → Nat
  | (.string bytes, d) => bytes.length + uptoBulk d + 1
  | (_, d) => uptoBulk d + 1
 end
def uptoSmall : (H : Type) → List (DataW H) → Bool := fun _ ds => decide (uptoBulkAll ds ≤ 1048576)
def OpenSpec.upto (s : _root_.Go.ChangeSpec) : _root_.Go.OpenSpec := { _root_.Go.OpenSpec.ofChange s with cond := some uptoSmall }

/-- 'laws.FnExactProcessOk', WHERE WHAT IT READS IS OF BULK AT MOST 1048576: true; the input reads as it did. -/
def fnExactProcessOkUptoRow : OpenClaim := { program := "ytbhobjepjaeffaa", sum := "17d8e76433a95ce8593b8b49fde69fc2dc3deb8a15ce7ec8ac3f7e384ac579d7", func := "loop.example/g03314/laws.FnExactProcessOk", spec := "fnExactProcessOk", apart := false, narrowed := true }
def FnExactProcessOkUptoSaid : Prop := fnExactProcessOkUptoRow.holds Try.pinned (OpenSpec.upto fnExactProcessOkSpec)

/-- 'laws.FnExactProcessDone', WHERE WHAT IT READS IS OF BULK AT MOST 1048576: true; the input reads as it did. -/
def fnExactProcessDoneUptoRow : OpenClaim := { program := "ytbhobjepjaeffaa", sum := "17d8e76433a95ce8593b8b49fde69fc2dc3deb8a15ce7ec8ac3f7e384ac579d7", func := "loop.example/g03314/laws.FnExactProcessDone", spec := "fnExactProcessDone", apart := false, narrowed := true }
def FnExactProcessDoneUptoSaid : Prop := fnExactProcessDoneUptoRow.holds Try.pinned (OpenSpec.upto fnExactProcessDoneSpec)

/-- 'laws.FnExactNewProcess', WHERE WHAT IT READS IS OF BULK AT MOST 1048576: true; the input reads as it did. -/
def fnExactNewProcessUptoRow : OpenClaim := { program := "ytbhobjepjaeffaa", sum := "17d8e76433a95ce8593b8b49fde69fc2dc3deb8a15ce7ec8ac3f7e384ac579d7", func := "loop.example/g03314/laws.FnExactNewProcess", spec := "fnExactNewProcess", apart := false, narrowed := true }
def FnExactNewProcessUptoSaid : Prop := fnExactNewProcessUptoRow.holds Try.pinned (OpenSpec.upto fnExactNewProcessSpec)

/-- 'laws.FnExactAgentOk', WHERE WHAT IT READS IS OF BULK AT MOST 1048576: true; the input reads as it did. -/
def fnExactAgentOkUptoRow : OpenClaim := { program := "ytbhobjepjaeffaa", sum := "17d8e76433a95ce8593b8b49fde69fc2dc3deb8a15ce7ec8ac3f7e384ac579d7", func := "loop.example/g03314/laws.FnExactAgentOk", spec := "fnExactAgentOk", apart := false, narrowed := true }
def FnExactAgentOkUptoSaid : Prop := fnExactAgentOkUptoRow.holds Try.pinned (OpenSpec.upto fnExactAgentOkSpec)

/-- 'laws.FnExactTakeSample', WHERE WHAT IT READS IS OF BULK AT MOST 1048576: true; the input reads as it did. -/
def fnExactTakeSampleUptoRow : OpenClaim := { program := "ytbhobjepjaeffaa", sum := "17d8e76433a95ce8593b8b49fde69fc2dc3deb8a15ce7ec8ac3f7e384ac579d7", func := "loop.example/g03314/laws.FnExactTakeSample", spec := "fnExactTakeSample", apart := false, narrowed := true }
def FnExactTakeSampleUptoSaid : Prop := fnExactTakeSampleUptoRow.holds Try.pinned (OpenSpec.upto fnExactTakeSampleSpec)

/-- 'laws.FnExactStepProcess', WHERE WHAT IT READS IS OF BULK AT MOST 1048576: true; the input reads as it did. -/
def fnExactStepProcessUptoRow : OpenClaim := { program := "ytbhobjepjaeffaa", sum := "17d8e76433a95ce8593b8b49fde69fc2dc3deb8a15ce7ec8ac3f7e384ac579d7", func := "loop.example/g03314/laws.FnExactStepProcess", spec := "fnExactStepProcess", apart := false, narrowed := true }
def FnExactStepProcessUptoSaid : Prop := fnExactStepProcessUptoRow.holds Try.pinned (OpenSpec.upto fnExactStepProcessSpec)

/-- 'laws.FnExactRunProcess', WHERE WHAT IT READS IS OF BULK AT MOST 1048576: true; the input reads as it did. -/
def fnExactRunProcessUptoRow : OpenClaim := { program := "ytbhobjepjaeffaa", sum := "17d8e76433a95ce8593b8b49fde69fc2dc3deb8a15ce7ec8ac3f7e384ac579d7", func := "loop.example/g03314/laws.FnExactRunProcess", spec := "fnExactRunProcess", apart := false, narrowed := true }
def FnExactRunProcessUptoSaid : Prop := fnExactRunProcessUptoRow.holds Try.pinned (OpenSpec.upto fnExactRunProcessSpec)

end Rows
end Go.Proofs.Ytbhobjepjaeffaa
