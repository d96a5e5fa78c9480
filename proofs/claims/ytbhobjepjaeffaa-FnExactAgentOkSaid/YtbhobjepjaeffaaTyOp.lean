/-
  TYOP: instructions as a datum.
-/
import Derived.Test.YtbhobjepjaeffaaProg
import Derived.Test.YtbhobjepjaeffaaOpen
import Derived.KernelRfl
import Derived.Test.YtbhobjepjaeffaaAppend
import Derived.Test.YtbhobjepjaeffaaRowsPut
set_option linter.unusedVariables false
set_option linter.unusedSimpArgs false
namespace Go.Proofs.Ytbhobjepjaeffaa
open Go.RowKit
structure DOp where
  Code : Int
  Arg : Int
  deriving DecidableEq
def tOp : Ty DOp := (intT.prod intT).via fun x => (x.Code, x.Arg)
theorem tOp_R {w : World} {B : Nat} {cs : List Value} {x : DOp} (h : tOp.R w B cs x) : cs = [.int .i64 x.Code, .int .i64 x.Arg] ∧ I64 x.Code ∧ I64 x.Arg := by
  obtain ⟨_, _, rfl, ⟨rfl, b1_Code, b2_Code⟩, ⟨rfl, b1_Arg, b2_Arg⟩⟩ := h
  exact ⟨rfl, ⟨b1_Code, b2_Code⟩, ⟨b1_Arg, b2_Arg⟩⟩
theorem tOp_mkR {w : World} {B : Nat} {x : DOp}  (h0 : I64 x.Code) (h1 : I64 x.Arg) : tOp.R w B [.int .i64 x.Code, .int .i64 x.Arg] x := by
  exact ⟨[.int .i64 x.Code], [.int .i64 x.Arg], rfl, ⟨rfl, h0.1, h0.2⟩, ⟨rfl, h1.1, h1.2⟩⟩
theorem tOp_O {w : World} {cs : List Value} {x : DOp} {S : List Nat} (h : tOp.O w cs x S) : cs = [.int .i64 x.Code, .int .i64 x.Arg] ∧ S = [] ∧ I64 x.Code ∧ I64 x.Arg := by
  obtain ⟨_, _, _, _, rfl, rfl, ⟨rfl, b1_Code, b2_Code, rfl⟩, ⟨rfl, b1_Arg, b2_Arg, rfl⟩⟩ := h
  exact ⟨rfl, rfl, ⟨b1_Code, b2_Code⟩, ⟨b1_Arg, b2_Arg⟩⟩
theorem tOp_mkO {w : World} {x : DOp}  (h0 : I64 x.Code) (h1 : I64 x.Arg) : tOp.O w [.int .i64 x.Code, .int .i64 x.Arg] x ([]) := by
  exact ⟨[.int .i64 x.Code], [.int .i64 x.Arg], [], [], rfl, rfl, ⟨rfl, h0.1, h0.2, rfl⟩, ⟨rfl, h1.1, h1.2, rfl⟩⟩
theorem toOpS_info : (Try.prog.info? 166).map (fun i => (i.zero, i.size, i.bytes)) = some (some (.agg #[.int .i64 0, .int .i64 0]), 2, 16) := by kernel_rfl
theorem flatOp : Flat tOp := flat_via _ (flat_prod flat_int flat_int)
theorem elOp : Elem Try.prog 147 166 tOp 16 := by
  obtain ⟨i0, hi, hz0, hz1, hz2⟩ := info_parts toOpS_info
  exact ⟨Try.underlying147, ⟨i0, _, hi, hz0, hz1, hz2, rfl⟩, by decide⟩
end Go.Proofs.Ytbhobjepjaeffaa
