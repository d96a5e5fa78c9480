/-
  PART.
-/
import Derived.Test.YtiihkapmggfjkaaGreatM8LawMakeDebug
import Derived.Test.YtiihkapmggfjkaaGreatM10LawMakeDebug
import Derived.Deep.CutRange
set_option linter.unusedVariables false
set_option linter.unusedSimpArgs false
set_option maxRecDepth 100000
set_option maxHeartbeats 8000000
namespace Go.Proofs.YtiihkapmggfjkaaGreat
open Option renaming none->V,some->H
open Obj renaming cells->C
open Bool renaming false->U
open Go renaming World->N,Value->LA
open World renaming cell?->Lg,frozen?->LD
open Go.RowKit
theorem pA {W:N}{g:Nat}{a b c:LA}{e:TypeId}(h:W.heap[g]?=H (C #[a,b,c] e (0,0))) :
  Lg W ⟨g,0,V⟩=H a/\Lg W ⟨g,1,V⟩=H b/\Lg W ⟨g,2,V⟩=H c/\(∀ j,LD W ⟨g,j,V⟩=U)/\g<W.heap.size:=by
 refine⟨?_,?_,?_,fun j=>by simp[LD,h],(blt h)⟩
 all_goals
  rw[MD W g _ _ _ (0,0) h]
  rfl
end Go.Proofs.YtiihkapmggfjkaaGreat
