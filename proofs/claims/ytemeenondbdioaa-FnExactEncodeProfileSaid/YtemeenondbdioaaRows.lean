/-
  No cell of these rows narrows 'for every input' (looked for: loops, veiled, ifaces, maps, wideKeys, modest, calm, conditions, laid).
  DERIVED. THE GIVEN ROWS OF THIS SEAT. 5 by the template 'for every input the law returns true; each argument reads behind the call as it read before'; 0 by the template 'total and deterministic' (their statements: YtemeenondbdioaaTotals.lean).
  GIVEN WITH THE SEED: the statements are not yours to turn. If you find one false, say at which input.
  Laid BY PROGRAM, IN A SANDBOX (cutbox-rows.mjs): the forced cells as the released guide's own fill.sh prints them over the translation 7f71c5d8e4e18f18… (all of the seat's roots in one cut). By AI agents, Wed Nov 11 2026. No macro, syntax, notation, axiom, sorry.
-/
import Derived.Test.YtemeenondbdioaaChecked
import GoSem.Claim
import GoSem.ClaimJoined
import GoSem.ClaimMapViews
import Derived.JoinedTies
import Derived.KernelRfl
namespace Go.Proofs.Ytemeenondbdioaa
/- THE CELL 'sum', in the pinned program and in every row, IS THE sha256 OF THE DUMP (.gsa) THAT YtemeenondbdioaaProg.lean LOADS. Nothing in Lean hashes anything: it is a label: what it is worth is what the hold of that sum in a sandbox is worth. -/
noncomputable def Try.pinned : Pinned := { name := "ytemeenondbdioaa", sum := "7f71c5d8e4e18f1811c48e09db07a96c0cb8bce4dd17064f4258692fcf50d242", checked := Try.checked }
namespace Rows
def none {H : Type} : Left H := { results := [], args := [] }

/-- 'laws.FnExactEncodeSample': WHATEVER THE INPUT: true; the input reads as it did. -/
def fnExactEncodeSampleSpec : ChangeSpec := { name := "fnExactEncodeSample", fn := fun _ => fun
  | [d] => { results := [.lit (.bool true)], args := [d] }
  | _ => none }
def fnExactEncodeSampleRow : OpenClaim := { program := "ytemeenondbdioaa", sum := "7f71c5d8e4e18f1811c48e09db07a96c0cb8bce4dd17064f4258692fcf50d242", func := "loop.example/g03314/laws.FnExactEncodeSample", spec := "fnExactEncodeSample", apart := false }
def FnExactEncodeSampleSaid : Prop := fnExactEncodeSampleRow.holds Try.pinned (OpenSpec.ofChange fnExactEncodeSampleSpec)

/-- ITS FALSE NEIGHBOUR: 'it returns false'. Refute it at one input. -/
def fnExactEncodeSampleWrong : ChangeSpec := { name := "fnExactEncodeSample", fn := fun _ => fun
  | [d] => { results := [.lit (.bool false)], args := [d] }
  | _ => none }
def FnExactEncodeSampleWrongFalsely : Prop := fnExactEncodeSampleRow.holds Try.pinned (OpenSpec.ofChange fnExactEncodeSampleWrong)

/-- 'laws.FnExactDecodeSample': WHATEVER THE INPUT: true; the input reads as it did. -/
def fnExactDecodeSampleSpec : ChangeSpec := { name := "fnExactDecodeSample", fn := fun _ => fun
  | [d] => { results := [.lit (.bool true)], args := [d] }
  | _ => none }
def fnExactDecodeSampleRow : OpenClaim := { program := "ytemeenondbdioaa", sum := "7f71c5d8e4e18f1811c48e09db07a96c0cb8bce4dd17064f4258692fcf50d242", func := "loop.example/g03314/laws.FnExactDecodeSample", spec := "fnExactDecodeSample", apart := false }
def FnExactDecodeSampleSaid : Prop := fnExactDecodeSampleRow.holds Try.pinned (OpenSpec.ofChange fnExactDecodeSampleSpec)

/-- ITS FALSE NEIGHBOUR: 'it returns false'. Refute it at one input. -/
def fnExactDecodeSampleWrong : ChangeSpec := { name := "fnExactDecodeSample", fn := fun _ => fun
  | [d] => { results := [.lit (.bool false)], args := [d] }
  | _ => none }
def FnExactDecodeSampleWrongFalsely : Prop := fnExactDecodeSampleRow.holds Try.pinned (OpenSpec.ofChange fnExactDecodeSampleWrong)

/-- 'laws.FnExactNamesOf': WHATEVER THE INPUT: true; the input reads as it did. -/
def fnExactNamesOfSpec : ChangeSpec := { name := "fnExactNamesOf", fn := fun _ => fun
  | [d] => { results := [.lit (.bool true)], args := [d] }
  | _ => none }
def fnExactNamesOfRow : OpenClaim := { program := "ytemeenondbdioaa", sum := "7f71c5d8e4e18f1811c48e09db07a96c0cb8bce4dd17064f4258692fcf50d242", func := "loop.example/g03314/laws.FnExactNamesOf", spec := "fnExactNamesOf", recurses := true, apart := false }
def FnExactNamesOfSaid : Prop := fnExactNamesOfRow.holds Try.pinned (OpenSpec.ofChange fnExactNamesOfSpec)

/-- ITS FALSE NEIGHBOUR: 'it returns false'. Refute it at one input. -/
def fnExactNamesOfWrong : ChangeSpec := { name := "fnExactNamesOf", fn := fun _ => fun
  | [d] => { results := [.lit (.bool false)], args := [d] }
  | _ => none }
def FnExactNamesOfWrongFalsely : Prop := fnExactNamesOfRow.holds Try.pinned (OpenSpec.ofChange fnExactNamesOfWrong)

/-- 'laws.FnExactEncodeProfile': WHATEVER THE INPUT: true; the input reads as it did. -/
def fnExactEncodeProfileSpec : ChangeSpec := { name := "fnExactEncodeProfile", fn := fun _ => fun
  | [d] => { results := [.lit (.bool true)], args := [d] }
  | _ => none }
def fnExactEncodeProfileRow : OpenClaim := { program := "ytemeenondbdioaa", sum := "7f71c5d8e4e18f1811c48e09db07a96c0cb8bce4dd17064f4258692fcf50d242", func := "loop.example/g03314/laws.FnExactEncodeProfile", spec := "fnExactEncodeProfile", recurses := true, apart := false }
def FnExactEncodeProfileSaid : Prop := fnExactEncodeProfileRow.holds Try.pinned (OpenSpec.ofChange fnExactEncodeProfileSpec)

/-- ITS FALSE NEIGHBOUR: 'it returns false'. Refute it at one input. -/
def fnExactEncodeProfileWrong : ChangeSpec := { name := "fnExactEncodeProfile", fn := fun _ => fun
  | [d] => { results := [.lit (.bool false)], args := [d] }
  | _ => none }
def FnExactEncodeProfileWrongFalsely : Prop := fnExactEncodeProfileRow.holds Try.pinned (OpenSpec.ofChange fnExactEncodeProfileWrong)

/-- 'laws.FnExactDecodeProfile': WHATEVER THE INPUT: true; the input reads as it did. -/
def fnExactDecodeProfileSpec : ChangeSpec := { name := "fnExactDecodeProfile", fn := fun _ => fun
  | [d] => { results := [.lit (.bool true)], args := [d] }
  | _ => none }
def fnExactDecodeProfileRow : OpenClaim := { program := "ytemeenondbdioaa", sum := "7f71c5d8e4e18f1811c48e09db07a96c0cb8bce4dd17064f4258692fcf50d242", func := "loop.example/g03314/laws.FnExactDecodeProfile", spec := "fnExactDecodeProfile", recurses := true, apart := false }
def FnExactDecodeProfileSaid : Prop := fnExactDecodeProfileRow.holds Try.pinned (OpenSpec.ofChange fnExactDecodeProfileSpec)

/-- ITS FALSE NEIGHBOUR: 'it returns false'. Refute it at one input. -/
def fnExactDecodeProfileWrong : ChangeSpec := { name := "fnExactDecodeProfile", fn := fun _ => fun
  | [d] => { results := [.lit (.bool false)], args := [d] }
  | _ => none }
def FnExactDecodeProfileWrongFalsely : Prop := fnExactDecodeProfileRow.holds Try.pinned (OpenSpec.ofChange fnExactDecodeProfileWrong)

/- THE SECOND FORM. 'bulk': how many values and letters a reading holds, each counted each time it is reached (what is shared counts as often as it is met; a slice's spare places count too). A statement '..UptoSaid' is the law's where the arguments, and the package variables that the reading takes, are together of bulk at most 1048576: NARROWER than '..Said'. Prove '..Said' where nothing that the law and all that it calls make is longer than what came in: it says more and counts as full. Else prove '..UptoSaid'. A law counts once. -/
mutual
def uptoBulk {H : Type} : DataW H → Nat
  | .lit (.string bytes) => bytes.length + 1
  | .lit _ => 1
  | .nil => 1
  | .ptr d => uptoBulk d + 1
  | .slice elems spare => uptoBulkAll elems + uptoBulkAll spare + 1
  | .agg parts => uptoBulkAll parts + 1
  | .iface _ d => uptoBulk d + 1
  | .map entries => uptoBulkEntries entries + 1
  | .held _ => 1
def uptoBulkAll {H : Type} : List (DataW H) → Nat
  | [] => 0
  | d :: r => uptoBulk d + uptoBulkAll r
def uptoBulkEntries {H : Type} : List (Lit × DataW H) → Nat
  | [] => 0
  | x :: r => uptoBulkEntry x + uptoBulkEntries r
def uptoBulkEntry {H : Type} : Lit × DataW H → Nat
  | (.string bytes, d) => bytes.length + uptoBulk d + 1
  | (_, d) => uptoBulk d + 1
 end
def uptoSmall : (H : Type) → List (DataW H) → Bool := fun _ ds => decide (uptoBulkAll ds ≤ 1048576)
def OpenSpec.upto (s : _root_.Go.ChangeSpec) : _root_.Go.OpenSpec := { _root_.Go.OpenSpec.ofChange s with cond := some uptoSmall }

/-- 'laws.FnExactEncodeSample', WHERE WHAT IT READS IS OF BULK AT MOST 1048576: true; the input reads as it did. -/
def fnExactEncodeSampleUptoRow : OpenClaim := { program := "ytemeenondbdioaa", sum := "7f71c5d8e4e18f1811c48e09db07a96c0cb8bce4dd17064f4258692fcf50d242", func := "loop.example/g03314/laws.FnExactEncodeSample", spec := "fnExactEncodeSample", apart := false, narrowed := true }
def FnExactEncodeSampleUptoSaid : Prop := fnExactEncodeSampleUptoRow.holds Try.pinned (OpenSpec.upto fnExactEncodeSampleSpec)

/-- 'laws.FnExactDecodeSample', WHERE WHAT IT READS IS OF BULK AT MOST 1048576: true; the input reads as it did. -/
def fnExactDecodeSampleUptoRow : OpenClaim := { program := "ytemeenondbdioaa", sum := "7f71c5d8e4e18f1811c48e09db07a96c0cb8bce4dd17064f4258692fcf50d242", func := "loop.example/g03314/laws.FnExactDecodeSample", spec := "fnExactDecodeSample", apart := false, narrowed := true }
def FnExactDecodeSampleUptoSaid : Prop := fnExactDecodeSampleUptoRow.holds Try.pinned (OpenSpec.upto fnExactDecodeSampleSpec)

/-- 'laws.FnExactNamesOf', WHERE WHAT IT READS IS OF BULK AT MOST 1048576: true; the input reads as it did. -/
def fnExactNamesOfUptoRow : OpenClaim := { program := "ytemeenondbdioaa", sum := "7f71c5d8e4e18f1811c48e09db07a96c0cb8bce4dd17064f4258692fcf50d242", func := "loop.example/g03314/laws.FnExactNamesOf", spec := "fnExactNamesOf", recurses := true, apart := false, narrowed := true }
def FnExactNamesOfUptoSaid : Prop := fnExactNamesOfUptoRow.holds Try.pinned (OpenSpec.upto fnExactNamesOfSpec)

/-- 'laws.FnExactEncodeProfile', WHERE WHAT IT READS IS OF BULK AT MOST 1048576: true; the input reads as it did. -/
def fnExactEncodeProfileUptoRow : OpenClaim := { program := "ytemeenondbdioaa", sum := "7f71c5d8e4e18f1811c48e09db07a96c0cb8bce4dd17064f4258692fcf50d242", func := "loop.example/g03314/laws.FnExactEncodeProfile", spec := "fnExactEncodeProfile", recurses := true, apart := false, narrowed := true }
def FnExactEncodeProfileUptoSaid : Prop := fnExactEncodeProfileUptoRow.holds Try.pinned (OpenSpec.upto fnExactEncodeProfileSpec)

/-- 'laws.FnExactDecodeProfile', WHERE WHAT IT READS IS OF BULK AT MOST 1048576: true; the input reads as it did. -/
def fnExactDecodeProfileUptoRow : OpenClaim := { program := "ytemeenondbdioaa", sum := "7f71c5d8e4e18f1811c48e09db07a96c0cb8bce4dd17064f4258692fcf50d242", func := "loop.example/g03314/laws.FnExactDecodeProfile", spec := "fnExactDecodeProfile", recurses := true, apart := false, narrowed := true }
def FnExactDecodeProfileUptoSaid : Prop := fnExactDecodeProfileUptoRow.holds Try.pinned (OpenSpec.upto fnExactDecodeProfileSpec)

end Rows
end Go.Proofs.Ytemeenondbdioaa
