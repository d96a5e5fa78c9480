/-
  No cell of these rows narrows 'for every input' (looked for: loops, veiled, ifaces, maps, wideKeys, modest, calm, conditions, laid).
  DERIVED. THE GIVEN ROWS OF THIS SEAT. 4 by the template 'for every input the law returns true; each argument reads behind the call as it read before'; 0 by the template 'total and deterministic' (their statements: YthgbglbaemelhaaGreatTotals.lean).
  GIVEN WITH THE SEED: the statements are not yours to turn. If you find one false, say at which input.
  Laid BY PROGRAM, IN A SANDBOX (cutbox-rows.mjs): the forced cells as the released guide's own fill.sh prints them over the translation b2ea1ebd9024c5ca… (all of the seat's roots in one cut). By AI agents, Wed Nov 11 2026. No macro, syntax, notation, axiom, sorry.
-/
import Derived.Test.YthgbglbaemelhaaGreatChecked
import GoSem.Claim
import GoSem.ClaimJoined
import GoSem.ClaimMapViews
import Derived.JoinedTies
import Derived.KernelRfl
namespace Go.Proofs.YthgbglbaemelhaaGreat
/- THE CELL 'sum', in the pinned program and in every row, IS THE sha256 OF THE DUMP (.gsa) THAT YthgbglbaemelhaaGreatProg.lean LOADS. Nothing in Lean hashes anything: it is a label: what it is worth is what the hold of that sum in a sandbox is worth. -/
noncomputable def Tryz.pinned : Pinned := { name := "ythgbglbaemelhaagreat", sum := "b2ea1ebd9024c5ca7a28b999713e9a48c2df8e4ea0a299efa79eaa19462f381e", checked := Tryz.checked }
namespace Rows
def none {H : Type} : Left H := { results := [], args := [] }

/-- 'laws.FnThreadsApart': WHATEVER THE INPUT: true; the input reads as it did. -/
def fnThreadsApartSpec : ChangeSpec := { name := "fnThreadsApart", fn := fun _ => fun
  | [d] => { results := [.lit (.bool true)], args := [d] }
  | _ => none }
def fnThreadsApartRow : OpenClaim := { program := "ythgbglbaemelhaagreat", sum := "b2ea1ebd9024c5ca7a28b999713e9a48c2df8e4ea0a299efa79eaa19462f381e", func := "loop.example/g03314/laws.FnThreadsApart", spec := "fnThreadsApart", recurses := true, apart := false }
def FnThreadsApartSaid : Prop := fnThreadsApartRow.holds Tryz.pinned (OpenSpec.ofChange fnThreadsApartSpec)

/-- ITS FALSE NEIGHBOUR: 'it returns false'. Refute it at one input. -/
def fnThreadsApartWrong : ChangeSpec := { name := "fnThreadsApart", fn := fun _ => fun
  | [d] => { results := [.lit (.bool false)], args := [d] }
  | _ => none }
def FnThreadsApartWrongFalsely : Prop := fnThreadsApartRow.holds Tryz.pinned (OpenSpec.ofChange fnThreadsApartWrong)

/-- 'laws.FnAgentTrue': WHATEVER THE INPUT: true; the input reads as it did. -/
def fnAgentTrueSpec : ChangeSpec := { name := "fnAgentTrue", fn := fun _ => fun
  | [d] => { results := [.lit (.bool true)], args := [d] }
  | _ => none }
def fnAgentTrueRow : OpenClaim := { program := "ythgbglbaemelhaagreat", sum := "b2ea1ebd9024c5ca7a28b999713e9a48c2df8e4ea0a299efa79eaa19462f381e", func := "loop.example/g03314/laws.FnAgentTrue", spec := "fnAgentTrue", unfollowed := true, recurses := true, apart := false }
def FnAgentTrueSaid : Prop := fnAgentTrueRow.holds Tryz.pinned (OpenSpec.ofChange fnAgentTrueSpec)

/-- ITS FALSE NEIGHBOUR: 'it returns false'. Refute it at one input. -/
def fnAgentTrueWrong : ChangeSpec := { name := "fnAgentTrue", fn := fun _ => fun
  | [d] => { results := [.lit (.bool false)], args := [d] }
  | _ => none }
def FnAgentTrueWrongFalsely : Prop := fnAgentTrueRow.holds Tryz.pinned (OpenSpec.ofChange fnAgentTrueWrong)

/-- 'laws.FnSlices': WHATEVER THE INPUT: true; the input reads as it did. -/
def fnSlicesSpec : ChangeSpec := { name := "fnSlices", fn := fun _ => fun
  | [d] => { results := [.lit (.bool true)], args := [d] }
  | _ => none }
def fnSlicesRow : OpenClaim := { program := "ythgbglbaemelhaagreat", sum := "b2ea1ebd9024c5ca7a28b999713e9a48c2df8e4ea0a299efa79eaa19462f381e", func := "loop.example/g03314/laws.FnSlices", spec := "fnSlices", recurses := true, apart := false }
def FnSlicesSaid : Prop := fnSlicesRow.holds Tryz.pinned (OpenSpec.ofChange fnSlicesSpec)

/-- ITS FALSE NEIGHBOUR: 'it returns false'. Refute it at one input. -/
def fnSlicesWrong : ChangeSpec := { name := "fnSlices", fn := fun _ => fun
  | [d] => { results := [.lit (.bool false)], args := [d] }
  | _ => none }
def FnSlicesWrongFalsely : Prop := fnSlicesRow.holds Tryz.pinned (OpenSpec.ofChange fnSlicesWrong)

/-- 'laws.FnRecords': WHATEVER THE INPUT: true; the input reads as it did. -/
def fnRecordsSpec : ChangeSpec := { name := "fnRecords", fn := fun _ => fun
  | [d] => { results := [.lit (.bool true)], args := [d] }
  | _ => none }
def fnRecordsRow : OpenClaim := { program := "ythgbglbaemelhaagreat", sum := "b2ea1ebd9024c5ca7a28b999713e9a48c2df8e4ea0a299efa79eaa19462f381e", func := "loop.example/g03314/laws.FnRecords", spec := "fnRecords", recurses := true, apart := false }
def FnRecordsSaid : Prop := fnRecordsRow.holds Tryz.pinned (OpenSpec.ofChange fnRecordsSpec)

/-- ITS FALSE NEIGHBOUR: 'it returns false'. Refute it at one input. -/
def fnRecordsWrong : ChangeSpec := { name := "fnRecords", fn := fun _ => fun
  | [d] => { results := [.lit (.bool false)], args := [d] }
  | _ => none }
def FnRecordsWrongFalsely : Prop := fnRecordsRow.holds Tryz.pinned (OpenSpec.ofChange fnRecordsWrong)

/- THE SECOND FORM. 'bulk': how many values and letters a reading holds, each counted each time it is reached (what is shared counts as often as it is met; a slice's spare places count too). A statement '..UptoSaid' is the law's where the arguments, and the package variables that the reading takes, are together of bulk at most 1048576: NARROWER than '..Said'. Prove '..Said' where nothing that the law and all that it calls make is longer than what came in: it says more and counts as full. Else prove '..UptoSaid'. A law counts once. -/
mutual
def uptoBulk {H : Type} : DataW H → Nat
  | .lit (.string bytes) => bytes.length + 1
  | .lit _ => 1
  | .nil => 1
  | .ptr d => uptoBulk d + 1
  | .slice elems spare => uptoBulkAll elems + uptoBulkAll spare + 1
  | .agg parts => uptoBulkAll parts + 1
  | .iface _ d => uptoBulk d + 1
  | .map entries => uptoBulkEntries entries + 1
  | .held _ => 1
def uptoBulkAll {H : Type} : List (DataW H) → Nat
  | [] => 0
  | d :: r => uptoBulk d + uptoBulkAll r
def uptoBulkEntries {H : Type} : List (Lit × DataW H) → Nat
  | [] => 0
  | x :: r => uptoBulkEntry x + uptoBulkEntries r
def uptoBulkEntry {H : Type} : Lit × DataW H → Nat
  | (.string bytes, d) => bytes.length + uptoBulk d + 1
  | (_, d) => uptoBulk d + 1
 end
def uptoSmall : (H : Type) → List (DataW H) → Bool := fun _ ds => decide (uptoBulkAll ds ≤ 1048576)
def OpenSpec.upto (s : _root_.Go.ChangeSpec) : _root_.Go.OpenSpec := { _root_.Go.OpenSpec.ofChange s with cond := some uptoSmall }

/-- 'laws.FnThreadsApart', WHERE WHAT IT READS IS OF BULK AT MOST 1048576: true; the input reads as it did. -/
def fnThreadsApartUptoRow : OpenClaim := { program := "ythgbglbaemelhaagreat", sum := "b2ea1ebd9024c5ca7a28b999713e9a48c2df8e4ea0a299efa79eaa19462f381e", func := "loop.example/g03314/laws.FnThreadsApart", spec := "fnThreadsApart", recurses := true, apart := false, narrowed := true }
def FnThreadsApartUptoSaid : Prop := fnThreadsApartUptoRow.holds Tryz.pinned (OpenSpec.upto fnThreadsApartSpec)

/-- 'laws.FnAgentTrue', WHERE WHAT IT READS IS OF BULK AT MOST 1048576: true; the input reads as it did. -/
def fnAgentTrueUptoRow : OpenClaim := { program := "ythgbglbaemelhaagreat", sum := "b2ea1ebd9024c5ca7a28b999713e9a48c2df8e4ea0a299efa79eaa19462f381e", func := "loop.example/g03314/laws.FnAgentTrue", spec := "fnAgentTrue", unfollowed := true, recurses := true, apart := false, narrowed := true }
def FnAgentTrueUptoSaid : Prop := fnAgentTrueUptoRow.holds Tryz.pinned (OpenSpec.upto fnAgentTrueSpec)

/-- 'laws.FnSlices', WHERE WHAT IT READS IS OF BULK AT MOST 1048576: true; the input reads as it did. -/
def fnSlicesUptoRow : OpenClaim := { program := "ythgbglbaemelhaagreat", sum := "b2ea1ebd9024c5ca7a28b999713e9a48c2df8e4ea0a299efa79eaa19462f381e", func := "loop.example/g03314/laws.FnSlices", spec := "fnSlices", recurses := true, apart := false, narrowed := true }
def FnSlicesUptoSaid : Prop := fnSlicesUptoRow.holds Tryz.pinned (OpenSpec.upto fnSlicesSpec)

/-- 'laws.FnRecords', WHERE WHAT IT READS IS OF BULK AT MOST 1048576: true; the input reads as it did. -/
def fnRecordsUptoRow : OpenClaim := { program := "ythgbglbaemelhaagreat", sum := "b2ea1ebd9024c5ca7a28b999713e9a48c2df8e4ea0a299efa79eaa19462f381e", func := "loop.example/g03314/laws.FnRecords", spec := "fnRecords", recurses := true, apart := false, narrowed := true }
def FnRecordsUptoSaid : Prop := fnRecordsUptoRow.holds Tryz.pinned (OpenSpec.upto fnRecordsSpec)

end Rows
end Go.Proofs.YthgbglbaemelhaaGreat
