/-
  PART.
-/
import Derived.Test.YthgbglbaemelhaaGreatM16LawSlices
set_option linter.unusedVariables false
set_option linter.unusedSimpArgs false
set_option maxRecDepth 100000
set_option maxHeartbeats 8000000
namespace Go.Proofs.YthgbglbaemelhaaGreat
open Value renaming slice->G,int->J,string->V
open IntKind renaming i64->C
open Option renaming some->Z
open Bool renaming false->I,true->M
open Go renaming World->U,results->Rd,Calls->Rh,Addr->Ri
open RowKit renaming intOf->Ry
open Tryz
open Go.RowKit
def lO {α:Type} [DecidableEq α]:Q α->α->Nat->Int
 | [],_,_=>-1
 | x::r,v,i=>if v=x then i else lO r v (i+1)
theorem GK {α:Type} [DecidableEq α]{xs:Q α}{k:Nat}{x v:α}(h:xs[k]?=Z x)(i:Nat):lO (xs.drop k) v i=if v=x then (i:Int) else lO (xs.drop (k+1)) v (i+1):=by
 obtain⟨h1,rfl⟩:=QM.1 h;rw[Q6 h1];rfl
theorem FZ {α:Type} [DecidableEq α](v:α):∀(xs:Q α)(i:Nat),0<=lO xs v i↔v∈xs
 | [],_=>by simp[lO]
 | x::r,i=>by
  unfold lO;split
  ·rename_i h;subst h;simp
  ·rename_i h;rw[FZ v r (i+1)];simp[h]
theorem zm {α:Type} [DecidableEq α](v:α)(xs:Q α):decide (lO xs v 0≥0)=(xs.any fun y=>decide (y=v)):=by
 rw[Ut,Ug,ge_iff_le,FZ v xs 0];simp
theorem zfh {xs:Q N}{v:N}{w:U}{A:X Ri}{c:Nat}(hx:(iH.sl 9).R w w.heap.size [G A xs.length c] xs)(hl:xs.length<=8796093022208) :
  Rh prog 193 #[G A xs.length c,V v] w fun e w'=>e=.returned (J C (lO xs v 0))/\ft w w':=by
 go_enter func193,ntmps193;go_wp2_with(fail);go_loopw [5] (fun j wr=>∃(k:Nat),j=J C k/\k<=xs.length/\Hid (ft w wr)/\Hid (lO (xs.drop k) v k=lO xs v 0)) (fun j _=>xs.length-(Ry j).toNat)
 case atStart=>exact⟨0,rfl,QX _,fh gF,fh rfl⟩
 case round=>
  obtain⟨k,rfl,hk,hG,hE⟩:=hrel;by_cases hlt:k<xs.length
  ·obtain⟨g,a3,x,rfl,a0,x0,_⟩:=vP hx hlt
   have a1:(k:Int)<(xs.length:Int):=by omega
   have x0:=za hG.out x0;have HX:=fh a0;clear a0;by_cases hv:v=x
   ·have HF:Hid (lO xs v 0=k):=fh (by rw[<-hE.out,GK HX.out,Q5 hv])
    have a2:(x.toList == v.toList)=M:=by rw[lp];simp[hv]
    clear hv;go_wp2_with(fail);exact QU (v:=J C (k:Int)) (by simp[Rd,results193,go_sem]) rfl ⟨by rw[HF.out],hG.out.trans gF⟩
   ·have HF:Hid (lO (xs.drop (k+1)) v (k+1)=lO xs v 0):=fh (by rw[<-hE.out,GK HX.out,QZ hv])
    have a2:(x.toList == v.toList)=I:=by rw[lp];simp;exact fun h=>hv h.symm
    clear hv;go_wp2_with(fail);go_roundw;exact⟨k+1,by go_num,by omega,fh (hG.out.trans gF),HF⟩;exact gH
  ·obtain rfl:k=xs.length:=by omega
   have a1:¬ ((xs.length:Int)<(xs.length:Int)):=by omega
   have HF:Hid (lO xs v 0 = -1):=fh (by rw[<-hE.out,Rq];rfl);go_wp2_with(fail);exact QU (v:=J C (-1)) (by simp[Rd,results193,go_sem]) rfl ⟨by rw[HF.out],hG.out.trans gF⟩
end Go.Proofs.YthgbglbaemelhaaGreat
