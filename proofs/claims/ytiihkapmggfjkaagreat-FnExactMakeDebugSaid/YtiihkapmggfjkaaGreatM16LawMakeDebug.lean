/-
  PART.
-/
import Derived.Test.YtiihkapmggfjkaaGreatM11LawMakeDebug
import Derived.Test.YtiihkapmggfjkaaGreatM15LawMakeDebug
set_option linter.unusedVariables false
set_option linter.unusedSimpArgs false
set_option maxRecDepth 100000
set_option maxHeartbeats 8000000
namespace Go.Proofs.YtiihkapmggfjkaaGreat
open Option renaming none->V,some->H
open Obj renaming cells->C
open Bool renaming false->U,true->M
open Go renaming World->N,Value->LA,Addr->Mh,yielded->NA
open World renaming cell?->Lg,frozen?->LD
open Region renaming wanted->MI,ready->MK,Mode->Nz,noSelect->ND,free->Oq
open Go.RowKit
variable {P:Program}{m:Nat}{ops:Array Oper}
theorem fX.skip {Ld:Exit->Act->N->Prop} {md:Nz} {S:N->Prop} {i:Nat} {oi:Oper} {cs:Q Nat} {f:Nat} {listed:Array Bool} {a:Act} {w:N} (hi:ops[i]?=H oi)(hsel:ND ops=M)(hf:Oq md ops listed i=M)(hr:(MK md ops listed).contains i=M)
  (hlk:oW md ops m i cs=M) (hne:cs.isEmpty=U) (hun:qA listed cs=M) (hQ:∀ c a w,Ld (.panic c) (a.put oi.dst undef) w->Ld (.panic c) a w) (hS:S w)
  (hw:MI oi (NA ops a.tmps)=U)
  (h:fX P md ops Ld S m f (listed.setIfInBounds i M) (a.put oi.dst undef) w):fX P md ops Ld S m (f+1) listed a w:=
 fX.first hi hsel hlk (by cases cs <;> simp at hne |-) hQ f listed a w (Region.free_spec hi hf) (fun c hc=>by
  simp only[qA,NL,NW] at hun
  exact hun c hc) (by simpa using hr) (.inr ⟨hw,rfl⟩) hS h
theorem fX.sk {Ld:Exit->Act->N->Prop} {md:Nz} {S:N->Prop} (i:Nat)(cs:Q Nat){oi:Oper}{f:Nat}{listed:Array Bool}{a a2:Act}{w:N}(hS:S w)(h:fX P md ops Ld S m f (listed.setIfInBounds i M) a2 w)
  (hi:ops[i]?=H oi:=by exact rfl) (hsel:ND ops=M:=by kernel_rfl) (hf:Oq md ops listed i=M:=by kernel_rfl) (hr:(MK md ops listed).contains i=M:=by kernel_rfl) (hlk:oW md ops m i cs=M:=by kernel_rfl) (hne:cs.isEmpty=U:=by exact rfl) (hun:qA listed cs=M:=by kernel_rfl)
  (hQ:∀ c a w,Ld (.panic c) (a.put oi.dst undef) w->Ld (.panic c) a w:=by exact fun _ _ _ h=>h) (hw:MI oi (NA ops a.tmps)=U:=by kernel_rfl) (ha:a.put oi.dst undef=a2:=by(try simp only[lay]) <;> exact rfl):fX P md ops Ld S m (f+1) listed a w:=
 fX.skip hi hsel hf hr hlk hne hun hQ hS hw (ha ▸ h)
theorem fX.sq {Ld:Exit->Act->N->Prop} {md:Nz} {S:N->Prop} (i:Nat)(cs:Q Nat){oi:Oper}{f:Nat}{listed:Array Bool}{a a2:Act}{w:N}(hS:S w)(h:fX P md ops Ld S m f (listed.setIfInBounds i M) a2 w)
  (hi:ops[i]?=H oi:=by exact rfl) (hsel:ND ops=M:=by kernel_rfl) (hf:Oq md ops listed i=M:=by kernel_rfl) (hr:(MK md ops listed).contains i=M:=by kernel_rfl) (hlk:oW md ops m i cs=M:=by kernel_rfl) (hne:cs.isEmpty=U:=by exact rfl) (hun:qA listed cs=M:=by kernel_rfl)
  (hQ:∀ c a w,Ld (.panic c) (a.put oi.dst undef) w->Ld (.panic c) a w:=by exact fun _ _ _ h=>h) (hw:MI oi (NA ops a.tmps)=U:=by first | rfl | kernel_rfl) (ha:a.put oi.dst undef=a2:=by(try simp only[lay]) <;> exact rfl):fX P md ops Ld S m (f+1) listed a w:=
 fX.skip hi hsel hf hr hlk hne hun hQ hS hw (ha ▸ h)
theorem za {a b:N} (h:fF a b){p:Mh}{v:LA}(hp:a.cell? p=H v):b.cell? p=H v:=by
 obtain⟨os,d,rfl⟩:=h;exact zC hp os d
theorem jq {W:N} {g:Nat} {o0 o1 o2 o3:LA} {e:TypeId} (h:W.heap[g]?=H (C #[o0,o1,o2,o3] e (0,0))) :
  Lg W ⟨g,0,V⟩=H o0/\Lg W ⟨g,1,V⟩=H o1/\Lg W ⟨g,2,V⟩=H o2/\Lg W ⟨g,3,V⟩=H o3/\(∀ j,LD W ⟨g,j,V⟩=U)/\g<W.heap.size:=by
 refine⟨?_,?_,?_,?_,fun j=>by simp[LD,h],(blt h)⟩
 all_goals
  rw[MD W g _ _ _ (0,0) h]
  rfl
end Go.Proofs.YtiihkapmggfjkaaGreat
