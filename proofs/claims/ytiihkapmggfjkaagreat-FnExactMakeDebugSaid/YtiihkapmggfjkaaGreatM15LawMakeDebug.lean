/-
  PART.
-/
import Derived.Test.YtiihkapmggfjkaaGreatM8LawMakeDebug
import Derived.Test.YtiihkapmggfjkaaGreatM10LawMakeDebug
import Derived.Test.YtiihkapmggfjkaaGreatM14LawMakeDebug
import Derived.Deep.Cut
import Derived.Deep.RegionLaw
set_option linter.unusedVariables false
set_option linter.unusedSimpArgs false
set_option maxRecDepth 100000
set_option maxHeartbeats 8000000
namespace Go.Proofs.YtiihkapmggfjkaaGreat
open Value renaming slice->J,int->F,string->G
open IntKind renaming i64->I
open Obj renaming cells->C
open Go renaming World->N,Calls->LR,Addr->Mh
open RowKit renaming intOf->Ml
open Tryz
open Go.RowKit
variable {A:K Mh}{c:Nat}{i:jL}{w:N}
def lB (s:D):Nat->Int
 | 0=>7
 | k+1=>(lB s k*257+AM s k+1) % 1000000007
theorem Ef (s:D):∀ k,0<=lB s k/\lB s k<=1000000006
 | 0=>⟨by show (0:Int)<=7;omega,by show (7:Int)<=1000000006;omega⟩
 | k+1=>⟨by unfold lB;omega,by unfold lB;omega⟩
theorem rz {g:Prop} (f:g:=by
  go_wp2
  rw[hg] at eb
  generalize w.alloc _=Y at hG0 eb |-
  obtain⟨y0,y1,yf0,yf1,yl⟩:=KB eb
  obtain⟨s,hs'⟩:∃ s,i.Code=s:=⟨_,rfl⟩
  rw[hs'] at y0 hs |-
  have HCS:=fE hs'
  clear hs' eb
  go_loopw [3,4] (fun a b wr=>∃ k:Nat,a=F I (lB s k)/\b=F I k/\k<=s.size/\wr=Y) (fun _ b _=>s.size-(Ml b).toNat)
  case atStart=>exact⟨0,rfl,rfl,Lv _,rfl⟩
  case round=>
   obtain⟨k,rfl,rfl,hk,rfl⟩:=hrel
   by_cases hlt:k<s.size
   ·have hb:=E6 hlt
    have hb2:0<=(s[k].toNat:Int)/\(s[k].toNat:Int)<=255:=by have:=s[k].toNat_lt;omega
    have hbd:=Ef s k
    obtain⟨u,hu⟩:∃ u,lB s k=u:=⟨_,rfl⟩
    have hv:(u*257+(s[k].toNat:Int)+1) % 1000000007=lB s (k+1):=by rw[lB,hb,hu]
    have hv2:(u*257+(s[k].toNat:Int)+1).tmod 1000000007=lB s (k+1):=by rw[OG (by omega),hv]
    rw[hu] at hbd |-
    obtain⟨v,hvv⟩:∃ v,lB s (k+1)=v:=⟨_,rfl⟩
    rw[hvv] at hv hv2
    have HV:=fE hvv
    clear hu hb hvv
    have hki:(k:Int)<(s.size:Int):=by omega
    go_wp2_with(fail)
    go_roundw
    exact⟨k+1,by rw[HV.out],by go_num,by omega,trivial⟩
    exact gL
   ·obtain rfl:k=s.size:=by omega
    have hki:¬ ((s.size:Int)<(s.size:Int)):=by omega
    go_wp2_with(fail)
    go_ret
    exact⟨kk (by rw[HCS.out]),hG0⟩):g:=f
theorem zpT (hs:i.Code.size<=1099511627776):LR prog 46 #[.agg #[G i.Code,J A i.fM.length c]] w fun r w'=>r=.returned (F I (lB i.Code i.Code.size))/\fF w w':=by
 have hG0:fF w (w.alloc (C #[G i.Code,J A i.fM.length c] 58)):=gG;have eb:=Lp w (C #[G i.Code,J A i.fM.length c] 58);obtain⟨g,hg⟩:∃ g,w.heap.size=g:=⟨_,rfl⟩
 go_enter func46,ntmps46;exact rz
theorem zpU (hs:i.Code.size<=1099511627776):LR prog 36 #[.agg #[G i.Code,J A i.fM.length c]] w fun r w'=>r=.returned (F I (lB i.Code i.Code.size))/\fF w w':=by
 have hG0:fF w (w.alloc (C #[G i.Code,J A i.fM.length c] 58)):=gG;have eb:=Lp w (C #[G i.Code,J A i.fM.length c] 58);obtain⟨g,hg⟩:∃ g,w.heap.size=g:=⟨_,rfl⟩
 go_enter func36,ntmps36;exact rz
end Go.Proofs.YtiihkapmggfjkaaGreat
