/-
  No cell of these rows narrows 'for every input' (looked for: loops, veiled, ifaces, maps, wideKeys, modest, calm, conditions, laid).
  DERIVED. THE GIVEN ROWS OF THIS SEAT. 3 by the template 'for every input the law returns true; each argument reads behind the call as it read before'; 0 by the template 'total and deterministic' (their statements: YtdlkoffandhclaaTotals.lean).
  GIVEN WITH THE SEED: the statements are not yours to turn. If you find one false, say at which input.
  Laid BY PROGRAM, IN A SANDBOX (cutbox-rows.mjs): the forced cells as the released guide's own fill.sh prints them over the translation fdabb3f86f92b3dd… (all of the seat's roots in one cut). By AI agents, Wed Nov 11 2026. No macro, syntax, notation, axiom, sorry.
-/
import Derived.Test.YtdlkoffandhclaaChecked
import GoSem.Claim
import GoSem.ClaimJoined
import GoSem.ClaimMapViews
import Derived.JoinedTies
import Derived.KernelRfl
namespace Go.Proofs.Ytdlkoffandhclaa
/- THE CELL 'sum', in the pinned program and in every row, IS THE sha256 OF THE DUMP (.gsa) THAT YtdlkoffandhclaaProg.lean LOADS. Nothing in Lean hashes anything: it is a label: what it is worth is what the hold of that sum in a sandbox is worth. -/
noncomputable def Try.pinned : Pinned := { name := "ytdlkoffandhclaa", sum := "fdabb3f86f92b3dd4440213cc59591bc24fb34149081cb3181d7559057f7571a", checked := Try.checked }
namespace Rows
def none {H : Type} : Left H := { results := [], args := [] }

/-- 'laws.FnExactDecodeProfile': WHATEVER THE INPUT: true; the input reads as it did. -/
def fnExactDecodeProfileSpec : ChangeSpec := { name := "fnExactDecodeProfile", fn := fun _ => fun
  | [d] => { results := [.lit (.bool true)], args := [d] }
  | _ => none }
def fnExactDecodeProfileRow : OpenClaim := { program := "ytdlkoffandhclaa", sum := "fdabb3f86f92b3dd4440213cc59591bc24fb34149081cb3181d7559057f7571a", func := "loop.example/g03314/laws.FnExactDecodeProfile", spec := "fnExactDecodeProfile", recurses := true, apart := false }
def FnExactDecodeProfileSaid : Prop := fnExactDecodeProfileRow.holds Try.pinned (OpenSpec.ofChange fnExactDecodeProfileSpec)

/-- ITS FALSE NEIGHBOUR: 'it returns false'. Refute it at one input. -/
def fnExactDecodeProfileWrong : ChangeSpec := { name := "fnExactDecodeProfile", fn := fun _ => fun
  | [d] => { results := [.lit (.bool false)], args := [d] }
  | _ => none }
def FnExactDecodeProfileWrongFalsely : Prop := fnExactDecodeProfileRow.holds Try.pinned (OpenSpec.ofChange fnExactDecodeProfileWrong)

/-- 'laws.FnRingCounts': WHATEVER THE INPUT: true; the input reads as it did. -/
def fnRingCountsSpec : ChangeSpec := { name := "fnRingCounts", fn := fun _ => fun
  | [d] => { results := [.lit (.bool true)], args := [d] }
  | _ => none }
def fnRingCountsRow : OpenClaim := { program := "ytdlkoffandhclaa", sum := "fdabb3f86f92b3dd4440213cc59591bc24fb34149081cb3181d7559057f7571a", func := "loop.example/g03314/laws.FnRingCounts", spec := "fnRingCounts", apart := false }
def FnRingCountsSaid : Prop := fnRingCountsRow.holds Try.pinned (OpenSpec.ofChange fnRingCountsSpec)

/-- ITS FALSE NEIGHBOUR: 'it returns false'. Refute it at one input. -/
def fnRingCountsWrong : ChangeSpec := { name := "fnRingCounts", fn := fun _ => fun
  | [d] => { results := [.lit (.bool false)], args := [d] }
  | _ => none }
def FnRingCountsWrongFalsely : Prop := fnRingCountsRow.holds Try.pinned (OpenSpec.ofChange fnRingCountsWrong)

/-- 'laws.FnInterned': WHATEVER THE INPUT: true; the input reads as it did. -/
def fnInternedSpec : ChangeSpec := { name := "fnInterned", fn := fun _ => fun
  | [d] => { results := [.lit (.bool true)], args := [d] }
  | _ => none }
def fnInternedRow : OpenClaim := { program := "ytdlkoffandhclaa", sum := "fdabb3f86f92b3dd4440213cc59591bc24fb34149081cb3181d7559057f7571a", func := "loop.example/g03314/laws.FnInterned", spec := "fnInterned", apart := false }
def FnInternedSaid : Prop := fnInternedRow.holds Try.pinned (OpenSpec.ofChange fnInternedSpec)

/-- ITS FALSE NEIGHBOUR: 'it returns false'. Refute it at one input. -/
def fnInternedWrong : ChangeSpec := { name := "fnInterned", fn := fun _ => fun
  | [d] => { results := [.lit (.bool false)], args := [d] }
  | _ => none }
def FnInternedWrongFalsely : Prop := fnInternedRow.holds Try.pinned (OpenSpec.ofChange fnInternedWrong)

/- THE SECOND FORM. 'bulk': how many values and letters a reading holds, each counted each time it is reached (what is shared counts as often as it is met; a slice's spare places count too). A statement '..UptoSaid' is the law's where the arguments, and the package variables that the reading takes, are together of bulk at most 1048576: NARROWER than '..Said'. Prove '..Said' where nothing that the law and all that it calls make is longer than what came in: it says more and counts as full. Else prove '..UptoSaid'. A law counts once. -/
mutual
def uptoBulk {H : Type} : DataW H → Nat
  | .lit (.string bytes) => bytes.length + 1
  | .lit _ => 1
  | .nil => 1
  | .ptr d => uptoBulk d + 1
  | .slice elems spare => uptoBulkAll elems + uptoBulkAll spare + 1
  | .agg parts => uptoBulkAll parts + 1
  | .iface _ d => uptoBulk d + 1
  | .map entries => uptoBulkEntries entries + 1
  | .held _ => 1
def uptoBulkAll {H : Type} : List (DataW H) → Nat
  | [] => 0
  | d :: r => uptoBulk d + uptoBulkAll r
def uptoBulkEntries {H : Type} : List (Lit × DataW H) → Nat
  | [] => 0
  | x :: r => uptoBulkEntry x + uptoBulkEntries r
def uptoBulkEntry {H : Type} : Lit × DataW H → Nat
  | (.string bytes, d) => bytes.length + uptoBulk d + 1
  | (_, d) => uptoBulk d + 1
 end
def uptoSmall : (H : Type) → List (DataW H) → Bool := fun _ ds => decide (uptoBulkAll ds ≤ 1048576)
def OpenSpec.upto (s : _root_.Go.ChangeSpec) : _root_.Go.OpenSpec := { _root_.Go.OpenSpec.ofChange s with cond := some uptoSmall }

/-- 'laws.FnExactDecodeProfile', WHERE WHAT IT READS IS OF BULK AT MOST 1048576: true; the input reads as it did. -/
def fnExactDecodeProfileUptoRow : OpenClaim := { program := "ytdlkoffandhclaa", sum := "fdabb3f86f92b3dd4440213cc59591bc24fb34149081cb3181d7559057f7571a", func := "loop.example/g03314/laws.FnExactDecodeProfile", spec := "fnExactDecodeProfile", recurses := true, apart := false, narrowed := true }
def FnExactDecodeProfileUptoSaid : Prop := fnExactDecodeProfileUptoRow.holds Try.pinned (OpenSpec.upto fnExactDecodeProfileSpec)

/-- 'laws.FnRingCounts', WHERE WHAT IT READS IS OF BULK AT MOST 1048576: true; the input reads as it did. -/
def fnRingCountsUptoRow : OpenClaim := { program := "ytdlkoffandhclaa", sum := "fdabb3f86f92b3dd4440213cc59591bc24fb34149081cb3181d7559057f7571a", func := "loop.example/g03314/laws.FnRingCounts", spec := "fnRingCounts", apart := false, narrowed := true }
def FnRingCountsUptoSaid : Prop := fnRingCountsUptoRow.holds Try.pinned (OpenSpec.upto fnRingCountsSpec)

/-- 'laws.FnInterned', WHERE WHAT IT READS IS OF BULK AT MOST 1048576: true; the input reads as it did. -/
def fnInternedUptoRow : OpenClaim := { program := "ytdlkoffandhclaa", sum := "fdabb3f86f92b3dd4440213cc59591bc24fb34149081cb3181d7559057f7571a", func := "loop.example/g03314/laws.FnInterned", spec := "fnInterned", apart := false, narrowed := true }
def FnInternedUptoSaid : Prop := fnInternedUptoRow.holds Try.pinned (OpenSpec.upto fnInternedSpec)

end Rows
end Go.Proofs.Ytdlkoffandhclaa
