/-
  PART.
-/
import Derived.Test.YthgbglbaemelhaaGreatM4LawSlices
import Derived.Test.YthgbglbaemelhaaGreatM5LawSlices
import Derived.Deep.Cut
set_option linter.unusedVariables false
set_option linter.unusedSimpArgs false
set_option maxRecDepth 100000
set_option maxHeartbeats 8000000
namespace Go.Proofs.YthgbglbaemelhaaGreat
open Value renaming slice->G,int->J,bool->H,string->V
open IntKind renaming i64->C
open Option renaming none->D,some->Z
open Obj renaming cells->F
open Bool renaming false->I,true->M
open Go renaming World->U,Calls->Rh,Addr->Ri
open World renaming cell?->QL
open RowKit renaming intOf->Ry
open Tryz
open Go.RowKit
variable {A:X Ri}{c:Nat}{i:gu}{w:U}
def mD (s:N):Nat->Int
 | 0=>7
 | k+1=>(mD s k*257+lE s k+1) % 1000000007
theorem IE (s:N):∀ k,0<=mD s k/\mD s k<=1000000006
 | 0=>⟨by show (0:Int)<=7;omega,by show (7:Int)<=1000000006;omega⟩
 | k+1=>⟨by unfold mD;omega,by unfold mD;omega⟩
theorem zhg (hs:i.Code.size<=1099511627776):Rh prog 125 #[.agg #[V i.Code,G A i.fm.length c]] w fun r w'=>r=.returned (J C (mD i.Code i.Code.size))/\ft w w':=by
 have a2:ft w (w.alloc (F #[V i.Code,G A i.fm.length c] 103)):=gG;have eb:=QO w (F #[V i.Code,G A i.fm.length c] 103);obtain⟨g,hg⟩:∃ g,w.heap.size=g:=⟨_,rfl⟩
 go_enter func125,ntmps125;go_wp2;rw[hg] at eb;generalize w.alloc _=Y at a2 eb |-;obtain⟨y0,y1,a8,a9,yl⟩:=kI eb;obtain⟨s,a0⟩:∃ s,i.Code=s:=⟨_,rfl⟩
 rw[a0] at y0 hs |-;have a3:=fh a0;clear a0 eb;go_loopw [3,4] (fun a b wr=>∃ k:Nat,a=J C (mD s k)/\b=J C k/\k<=s.size/\wr=Y) (fun _ b _=>s.size-(Ry b).toNat)
 case atStart=>exact⟨0,rfl,rfl,QX _,rfl⟩
 case round=>
  obtain⟨k,rfl,rfl,hk,rfl⟩:=hrel;by_cases hlt:k<s.size
  ·have hb:=xQ hlt
   have a7:0<=(s[k].toNat:Int)/\(s[k].toNat:Int)<=255:=by have:=s[k].toNat_lt;omega
   have a4:=IE s k;obtain⟨u,hu⟩:∃ u,mD s k=u:=⟨_,rfl⟩
   have hv:(u*257+(s[k].toNat:Int)+1) % 1000000007=mD s (k+1):=by rw[mD,hb,hu]
   have a6:(u*257+(s[k].toNat:Int)+1).tmod 1000000007=mD s (k+1):=by rw[Int.tmod_eq_emod_of_nonneg (by omega),hv]
   rw[hu] at a4 |-;obtain⟨v,a1⟩:∃ v,mD s (k+1)=v:=⟨_,rfl⟩
   rw[a1] at hv a6;have HV:=fh a1;clear hu hb a1;have a5:(k:Int)<(s.size:Int):=by omega
   go_wp2_with(fail);go_roundw;exact⟨k+1,by rw[HV.out],by go_num,by omega,trivial⟩;exact gH
  ·obtain rfl:k=s.size:=by omega
   have a5:¬ ((s.size:Int)<(s.size:Int)):=by omega
   go_wp2_with(fail);go_ret;exact⟨nN (by rw[a3.out]),a2⟩
def qE (i:gu)(d:gE):Bool:=decide (d.Id=mD i.Code i.Code.size) && decide (i.fm=d.fm)
theorem rK {g:Prop} (f:g:=by
  go_wp2_with(fail)
  go_quiet (fail)
  go_wp2_with(fail)
  go_ret
  refine⟨zo ?_,hG0.trans gG⟩
  rw[HF2.out]
  symm
  simp only[RW]
  intro h8
  have h9:=HX.out.symm.trans ((Sg (fun l=>l[k]?) h8).trans HY.out)
  simp at h9
  exact HXY.out h9):g:=f
theorem zjx {d:gE} {B0 B1 B2 B3:X Ri} {e0 e1 e2 e3:Nat} (hx:(ji.sl 137).R w w.heap.size [G A i.fm.length c] i.fm)(hy:(ji.sl 137).R w w.heap.size [G B0 d.fm.length e0] d.fm)(hs:i.Code.size<=1099511627776) :
  Rh prog 94 #[.agg #[V i.Code,G A i.fm.length c],.agg #[J C d.Id,G B0 d.fm.length e0,G B1 d.fY.length e1,G B2 d.Rows.length e2,G B3 d.fI.length e3]] w fun r w'=>r=.returned (H (qE i d))/\ft w w':=by
 have hG0:ft w ((w.alloc (F #[V i.Code,G A i.fm.length c] 103)).alloc (F #[J C d.Id,G B0 d.fm.length e0,G B1 d.fY.length e1,G B2 d.Rows.length e2,G B3 d.fI.length e3] 108)):=gG;have eb:((w.alloc (F #[V i.Code,G A i.fm.length c] 103)).alloc (F #[J C d.Id,G B0 d.fm.length e0,G B1 d.fY.length e1,G B2 d.Rows.length e2,G B3 d.fI.length e3] 108)).heap[w.heap.size]?=Z (F #[V i.Code,G A i.fm.length c] 103 (0,0)):=zj (QO w _) gF
 have ed:((w.alloc (F #[V i.Code,G A i.fm.length c] 103)).alloc (F #[J C d.Id,G B0 d.fm.length e0,G B1 d.fY.length e1,G B2 d.Rows.length e2,G B3 d.fI.length e3] 108)).heap[w.heap.size+1]?=Z (F #[J C d.Id,G B0 d.fm.length e0,G B1 d.fY.length e1,G B2 d.Rows.length e2,G B3 d.fI.length e3] 108 (0,0)):=by
  have h:=QO (w.alloc (F #[V i.Code,G A i.fm.length c] 103)) (F #[J C d.Id,G B0 d.fm.length e0,G B1 d.fY.length e1,G B2 d.Rows.length e2,G B3 d.fI.length e3] 108);rw[Rf] at h;exact h
 have kx:=Ty.up _ hx hG0;have ky:=Ty.up _ hy hG0;obtain⟨g,hg⟩:∃ g,w.heap.size=g:=⟨_,rfl⟩
 obtain⟨u,hu⟩:∃ u,mD i.Code i.Code.size=u:=⟨_,rfl⟩
 have HU:=fh hu;have HF:=fh (show qE i d=(decide (d.Id=u) && decide (i.fm=d.fm)) from by unfold qE;rw[hu]);clear hu;go_enter func94,ntmps94;go_upto_region 1 with(fail);rw[hg] at eb ed;generalize ((w.alloc _).alloc _)=Y at hG0 eb ed kx ky |-;clear hx hy;have au:d.fm.length<=9223372036854775807:=by obtain⟨A9,c9,h1,h2,h3⟩:=lu ky;omega
 obtain⟨y0,y1,av,aw,yl⟩:=kI eb;obtain⟨z0,z1,z2,z3,z4,zf,zl⟩:=iY ed;by_cases hid:d.Id=u
 ·have hq:(d.Id != u)=I:=by simp[hid]
  have a1:decide (d.Id=u)=M:=by simp[hid]
  have HF2:=fh (show qE i d=decide (i.fm=d.fm) from by rw[HF.out,a1,Tr]);clear hid a1;by_cases hl:d.fm.length=i.fm.length
  ·have ag:((d.fm.length:Int) != (i.fm.length:Int))=I:=by simp[hl]
   have HL:=fh hl;clear hl
   go_region_held3 (fun w'=>QL w' ⟨g,0,D⟩=Z (V i.Code)/\QL w' ⟨g,1,D⟩=Z (G A i.fm.length c)/\QL w' ⟨g+1,0,D⟩=Z (J C d.Id)/\QL w' ⟨g+1,1,D⟩=Z (G B0 d.fm.length e0)) ((repeat' apply QQ) <;> (first | ((repeat (first | assumption | with_reducible refine zd ?_ _ _ | with_reducible refine zk ?_ _ | with_reducible refine zc ?_));done) | (simp[go_sem];done))) (first
    | (go_at_call 125;(with_reducible refine(zhg (i:=i) hs).mono ?_);rw[HU.out];rintro e w1 ⟨rfl,aa,d1,rfl⟩))
   go_wp2_with(fail);go_loopw [5] (fun a wr=>∃ k:Nat,k<=d.fm.length/\a=J C k/\Hid (ft Y wr)/\Hid (i.fm.take k=d.fm.take k)) (fun a _=>d.fm.length-(Ry a).toNat)
   case atStart=>exact⟨0,QX _,rfl,fh gG,fh (by simp)⟩
   case round=>
    obtain⟨k,hk,rfl,hG,HT⟩:=hrel;obtain⟨os,dd,rfl⟩:=hG.out;clear hG;have z0:=zd z0 os dd;have z1:=zd z1 os dd;have y0:=zd y0 os dd;have y1:=zd y1 os dd;by_cases hlt:k<d.fm.length
    ·have a0:k<i.fm.length:=by rw[<-HL.out];exact hlt
     obtain⟨gx,aj,x,rfl,ar,a5,a2,a3,a4,al,am,an⟩:=qm kx a0;obtain⟨gy,ak,y,rfl,ad,a9,a6,a7,a8,ao,ap,aq⟩:=qm ky hlt;have HX:=fh a5;have HY:=fh a9;clear a5 a9 kx ky;have ae:(k:Int)<(d.fm.length:Int):=by omega
     have af:(k:Int)<(i.fm.length:Int):=by omega
     have q0:=zd a2 os dd;have q1:=zd a3 os dd;have q2:=zd a4 os dd;have r0:=zd a6 os dd;have r1:=zd a7 os dd;have r2:=zd a8 os dd;clear a2 a3 a4 a6 a7 a8;by_cases hs':y.Name=x.Name
     ·have ah:(y.Name.toList == x.Name.toList)=M:=by rw[lp];simp[hs']
      by_cases hc:y.Start=x.Start
      ·have ac:(y.Start == x.Start)=M:=by simp[hc]
       by_cases hz:y.gK=x.gK
       ·have ai:(y.gK == x.gK)=M:=by simp[hz]
        have HXY:=fh (show x=y from by cases x;cases y;simp only at hs' hc hz;rw[hs',hc,hz]);clear hs' hc hz;go_wp2_with(fail);go_quiet (fail);go_wp2_with(fail);go_roundw;exact⟨k+1,by omega,by go_num,fh gG,fh (by rw[vO HX.out,vO HY.out,HT.out,HXY.out])⟩;exact gH
       ·have ai:(y.gK == x.gK)=I:=by simp[hz]
        have HXY:=fh (show x≠y from by rintro rfl;exact hz rfl);clear hs' hc hz;exact rK
      ·have ac:(y.Start == x.Start)=I:=by simp[hc]
       have HXY:=fh (show x≠y from by rintro rfl;exact hc rfl);clear hs' hc;exact rK
     ·have ah:(y.Name.toList == x.Name.toList)=I:=by rw[lp];simp[hs']
      have HXY:=fh (show x≠y from by rintro rfl;exact hs' rfl);clear hs';exact rK
    ·have ae:¬ ((k:Int)<(d.fm.length:Int)):=by omega
     go_wp2_with(fail);go_ret;refine⟨zo ?_,hG0.trans gG⟩;have:k=d.fm.length:=by omega
     subst this;have h1:=HT.out;rw[HL.out] at h1;simp only[RX] at h1;rw[<-HL.out] at h1;simp at h1;rw[HF2.out];simp[h1]
  ·have ag:((d.fm.length:Int) != (i.fm.length:Int))=M:=by simp;omega
   have ab:=fh (show qE i d=I from by rw[HF2.out];simp only[RW];intro h;exact hl (Sg List.length h).symm);clear hl
   go_region_held3 (fun w'=>QL w' ⟨g,0,D⟩=Z (V i.Code)/\QL w' ⟨g,1,D⟩=Z (G A i.fm.length c)/\QL w' ⟨g+1,0,D⟩=Z (J C d.Id)/\QL w' ⟨g+1,1,D⟩=Z (G B0 d.fm.length e0)) ((repeat' apply QQ) <;> (first | ((repeat (first | assumption | with_reducible refine zd ?_ _ _ | with_reducible refine zk ?_ _ | with_reducible refine zc ?_));done) | (simp[go_sem];done))) (first
    | (go_at_call 125;(with_reducible refine(zhg (i:=i) hs).mono ?_);rw[HU.out];rintro e w1 ⟨rfl,aa,d1,rfl⟩))
   go_wp2_with(fail);go_ret;exact⟨zo ab.out.symm,hG0.trans gG⟩
 ·have hq:(d.Id != u)=M:=by simp[hid]
  have HF2:=fh (show qE i d=I from by rw[HF.out];simp[hid]);clear hid
  first | (go_region_law (first | (go_simp;go_at_call 125;refine(zhg (i:=i) hs).mono ?_;rw[HU.out];rintro e w1 ⟨rfl,aa,d1,rfl⟩))) | fail
  all_goals
   go_wp2_with(fail)
   go_ret
   exact⟨zo HF2.out.symm,hG0.trans gG⟩
end Go.Proofs.YthgbglbaemelhaaGreat
