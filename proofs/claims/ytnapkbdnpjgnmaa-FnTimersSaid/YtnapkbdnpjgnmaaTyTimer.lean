/-
  TYPES, written by a program (gentypefile.py): Timer.
-/
import Derived.Test.YtnapkbdnpjgnmaaProg
import Derived.Test.YtnapkbdnpjgnmaaOpen
import Derived.KernelRfl
set_option linter.unusedVariables false
set_option linter.unusedSimpArgs false
namespace Go.Proofs.Ytnapkbdnpjgnmaa
open Go.RowKit
structure DTimer where
  Period : Int
  Spread : Int
  Left : Int
  State : Int
  deriving DecidableEq
def tTimer : Ty DTimer := (intT.prod (intT.prod (intT.prod intT))).via fun x => (x.Period, x.Spread, x.Left, x.State)
theorem tTimer_R {w : World} {B : Nat} {cs : List Value} {x : DTimer} (h : tTimer.R w B cs x) : cs = [.int .i64 x.Period, .int .i64 x.Spread, .int .i64 x.Left, .int .i64 x.State] ∧ I64 x.Period ∧ I64 x.Spread ∧ I64 x.Left ∧ I64 x.State := by
  obtain ⟨_, _, rfl, ⟨rfl, b1_Period, b2_Period⟩, ⟨_, _, rfl, ⟨rfl, b1_Spread, b2_Spread⟩, ⟨_, _, rfl, ⟨rfl, b1_Left, b2_Left⟩, ⟨rfl, b1_State, b2_State⟩⟩⟩⟩ := h
  exact ⟨rfl, ⟨b1_Period, b2_Period⟩, ⟨b1_Spread, b2_Spread⟩, ⟨b1_Left, b2_Left⟩, ⟨b1_State, b2_State⟩⟩
theorem tTimer_mkR {w : World} {B : Nat} {x : DTimer}  (h0 : I64 x.Period) (h1 : I64 x.Spread) (h2 : I64 x.Left) (h3 : I64 x.State) : tTimer.R w B [.int .i64 x.Period, .int .i64 x.Spread, .int .i64 x.Left, .int .i64 x.State] x := by
  exact ⟨[.int .i64 x.Period], [.int .i64 x.Spread, .int .i64 x.Left, .int .i64 x.State], rfl, ⟨rfl, h0.1, h0.2⟩, ⟨[.int .i64 x.Spread], [.int .i64 x.Left, .int .i64 x.State], rfl, ⟨rfl, h1.1, h1.2⟩, ⟨[.int .i64 x.Left], [.int .i64 x.State], rfl, ⟨rfl, h2.1, h2.2⟩, ⟨rfl, h3.1, h3.2⟩⟩⟩⟩
theorem tTimer_O {w : World} {cs : List Value} {x : DTimer} {S : List Nat} (h : tTimer.O w cs x S) : cs = [.int .i64 x.Period, .int .i64 x.Spread, .int .i64 x.Left, .int .i64 x.State] ∧ S = [] ∧ I64 x.Period ∧ I64 x.Spread ∧ I64 x.Left ∧ I64 x.State := by
  obtain ⟨_, _, _, _, rfl, rfl, ⟨rfl, b1_Period, b2_Period, rfl⟩, ⟨_, _, _, _, rfl, rfl, ⟨rfl, b1_Spread, b2_Spread, rfl⟩, ⟨_, _, _, _, rfl, rfl, ⟨rfl, b1_Left, b2_Left, rfl⟩, ⟨rfl, b1_State, b2_State, rfl⟩⟩⟩⟩ := h
  exact ⟨rfl, rfl, ⟨b1_Period, b2_Period⟩, ⟨b1_Spread, b2_Spread⟩, ⟨b1_Left, b2_Left⟩, ⟨b1_State, b2_State⟩⟩
theorem tTimer_mkO {w : World} {x : DTimer}  (h0 : I64 x.Period) (h1 : I64 x.Spread) (h2 : I64 x.Left) (h3 : I64 x.State) : tTimer.O w [.int .i64 x.Period, .int .i64 x.Spread, .int .i64 x.Left, .int .i64 x.State] x ([]) := by
  exact ⟨[.int .i64 x.Period], [.int .i64 x.Spread, .int .i64 x.Left, .int .i64 x.State], [], ([] ++ ([] ++ [])), rfl, rfl, ⟨rfl, h0.1, h0.2, rfl⟩, ⟨[.int .i64 x.Spread], [.int .i64 x.Left, .int .i64 x.State], [], ([] ++ []), rfl, rfl, ⟨rfl, h1.1, h1.2, rfl⟩, ⟨[.int .i64 x.Left], [.int .i64 x.State], [], [], rfl, rfl, ⟨rfl, h2.1, h2.2, rfl⟩, ⟨rfl, h3.1, h3.2, rfl⟩⟩⟩⟩
end Go.Proofs.Ytnapkbdnpjgnmaa
