/-
  PART.
-/
import Derived.Test.YthgbglbaemelhaaGreatM5LawSlices
import Derived.Deep.Cut
set_option linter.unusedVariables false
set_option linter.unusedSimpArgs false
set_option maxRecDepth 100000
set_option maxHeartbeats 8000000
namespace Go.Proofs.YthgbglbaemelhaaGreat
open Value renaming slice->G,int->J,bool->H
open IntKind renaming i64->C,wrap->QP
open Option renaming some->Z,getD_some->Sq
open Bool renaming false->I,true->M
open Go renaming World->U,Calls->Rh,Addr->Ri
open RowKit renaming intOf->Ry
open _root_.Nat renaming add_zero->RK
open Tryz
open Go.RowKit
variable {all rs:Q fQ}{i j k:Nat}{p:Int}{q x:fQ}{r:ir}
def jO (x:fQ):Bool:=decide (0<=x.Start) && decide (x.Start<x.End) && decide (x.End<=1000000) && fT x.Level 0 2 && fT x.fH 0 59 && kU x.Name
def rq (q x:fQ):Bool:=decide (x.Level<q.Level) || (q.Level == x.Level && decide (x.Start<q.End))
def rz (x y:fQ):Bool:=y.Level == x.Level-1 && (decide (y.Start<=x.Start) && decide (x.End<=y.End))
def rV (x:fQ):Bool->Q fQ->Bool
 | b,[]=>b
 | b,y::ys=>rV x (b || rz x y) ys
def AM (all:Q fQ)(k:Nat)(x:fQ):Bool:=match k with
 | 0=>I
 | j+1=>rq (all[j]?.getD x) x
def lj (all:Q fQ)(k:Nat)(x:fQ):Bool:=jO x && !AM all k x && rV x (x.Level == 0) (all.take k)
def wg (all:Q fQ):Nat->Q fQ->Bool
 | _,[]=>M
 | k,x::r=>lj all k x && wg all (k+1) r
def vK (xs:Q fQ):Bool:=wg xs 0 xs
theorem vF (h:rs[k]?=Z x):wg all k (rs.drop k)=(lj all k x && wg all (k+1) (rs.drop (k+1))):=by
 obtain⟨h1,rfl⟩:=QM.1 h;rw[Q6 h1];rfl
theorem qp (h:jO x=I):lj all k x=I:=by
 unfold lj;rw[h];rfl
theorem Gz (h:all[j]?=Z q)(hb:rq q x=M):lj all (j+1) x=I:=by
 unfold lj AM;simp only[h,Sq,hb];simp
theorem MC (h:jO x=M):lj all 0 x=rV x (x.Level == 0) (all.take 0):=by
 unfold lj AM;rw[h];rfl
theorem MB (h:jO x=M)(hq:all[j]?=Z q)(hb:rq q x=I):lj all (j+1) x=rV x (x.Level == 0) (all.take (j+1)):=by
 unfold lj AM;simp only[hq,Sq,hb,h];rfl
theorem Gy (h:jO x=M):0<=x.Level/\x.Level<=2:=by
 unfold jO at h;simp only[Q4] at h;exact zu.1 h.1.1.2
theorem xS {y:fQ} (h:rs[i]?=Z y)(hik:i<k)(b:Bool):rV x b ((rs.take k).drop i)=rV x (b || rz x y) ((rs.take k).drop (i+1)):=by
 obtain⟨h1,rfl⟩:=QM.1 h;have h2:i<(rs.take k).length:=by rw[Sj];omega
 rw[Q6 h2];show rV x (b || rz x (rs.take k)[i]) _=_;rw[List.getElem_take]
theorem ES (h:k<=i)(b:Bool):rV x b ((rs.take k).drop i)=b:=by
 rw[SX (by rw[Sj];omega)];rfl
theorem zG {a b:U} (h:ft a b){p:Ri}{v:Value}(hp:a.cell? p=Z v):b.cell? p=Z v:=by
 obtain⟨os,d,rfl⟩:=h;exact zd hp os d
def r8 (rs:Q ir)(k:Nat):Int:=match k with
 | 0=>-1
 | j+1=>(rs[j]?.map ir.Offset).getD 0
theorem C7:tI p r=M↔fT r.Offset 0 1000000=M/\fT r.fH 0 59=M/\p<r.Offset:=by
 unfold tI;simp only[Q4,Rg];exact UU
theorem De (h:¬ (fT r.Offset 0 1000000=M/\fT r.fH 0 59=M/\p<r.Offset)):tI p r=I:=by
 cases hq:tI p r with
 | false=>rfl
 | true=>exact absurd (C7.1 hq) h
theorem uB {g:Prop} (f:g:=by
  clear hx
  go_wp2_with(fail)
  go_quiet ((first | (go_at_call 43;with_reducible exact vU hb1 _ _) | (go_at_call 43;with_reducible exact vU hb2 _ _)))
  go_wp2_with(fail)
  go_ret
  exact⟨zo (by rw[<-hE.out,xU HX.out,HR.out];rfl),gG⟩):g:=f
theorem ze0 {rs:Q ir} {w:U} {A:X Ri} {c:Nat} (hx:(ly.sl 216).R w w.heap.size [G A rs.length c] rs) :
  Rh prog 115 #[G A rs.length c] w fun e w'=>e=.returned (H (qC (-1) rs))/\ft w w':=by
 obtain⟨_,_,a8,h1,h2⟩:=lu hx;injection a8 with e1 e2 e3
 subst e1 e3;clear e2;go_enter func115,ntmps115;go_wp2;go_loopw [3] (fun a wr=>∃ k:Nat,a=J C k/\k<=rs.length/\Hid (ft w wr)/\Hid (qC (r8 rs k) (rs.drop k)=qC (-1) rs)) (fun a _=>rs.length-(Ry a).toNat)
 case atStart=>exact⟨0,rfl,QX _,fh (ft.refl _),fh rfl⟩
 case round=>
  obtain⟨k,rfl,hk,hG,hE⟩:=hrel;obtain⟨os,d,rfl⟩:=hG.out;clear hG;by_cases hlt:k<rs.length
  ·obtain⟨g,ad,r,hA,aa,a2,x0,x1,x2,bo,bl⟩:=Dp hx hlt
   have HX:=fh a2;have x0:=zd x0 os d;have x1:=zd x1 os d;have x2:=zd x2 os d;have a6:(k:Int)<(rs.length:Int):=by omega
   clear a2;subst hA;obtain⟨b1,hb1⟩:∃ b,fT r.Offset 0 1000000=b:=⟨_,rfl⟩
   cases b1 with
   | false=>
    have HR:=fh (De (p:=r8 rs k) (r:=r) (by rw[hb1];simp));clear hx;go_wp2_with(fail);go_quiet ((first | (go_at_call 43;with_reducible exact vU hb1 _ _)));go_wp2_with(fail);go_ret;exact⟨zo (by rw[<-hE.out,xU HX.out,HR.out];rfl),gG⟩
   | true=>
    obtain⟨b2,hb2⟩:∃ b,fT r.fH 0 59=b:=⟨_,rfl⟩
    cases b2 with
    | false=>
     have HR:=fh (De (p:=r8 rs k) (r:=r) (by rw[hb2];simp));exact uB
    | true=>
     cases k with
     | zero=>
      simp only[Ux,RK] at x0 x1 x2;have hz:¬ ((0:Int)<((0:Nat):Int)):=by omega
      have a1:r8 rs 0 = -1:=rfl;have a5:=zu.1 hb1;have HR:=fh (C7.2 (show fT r.Offset 0 1000000=M/\fT r.fH 0 59=M/\r8 rs 0<r.Offset from⟨hb1,hb2,by omega⟩));go_wp2_with(fail);go_quiet ((first | (go_at_call 43;with_reducible exact vU hb1 _ _) | (go_at_call 43;with_reducible exact vU hb2 _ _)));go_wp2_with(fail);go_roundw;exact⟨0+1,by go_num,by omega,fh gG,fh (by rw[<-hE.out,xU HX.out,HR.out];simp[r8,HX.out])⟩;exact gH
     | succ j=>
      obtain⟨gq,a9,q,a0,_,a7,u0,u1,u2,_,_⟩:=Dp hx (k:=j) (by omega);have u0:=zd u0 os d;injection a0 with a0
      injection a0 with hq1 hq2
      subst hq1 hq2;have a1:r8 rs (j+1)=q.Offset:=by show (rs[j]?.map ir.Offset).getD 0=q.Offset;rw[a7];rfl
      have hz:(0:Int)<(j:Int)+1:=by omega
      have ac:QP C ((j:Int)+1-1)=(j:Int):=by rw[show (j:Int)+1-1=(j:Int) from by omega];exact iw
      have ab:(j:Int)<(rs.length:Int):=by omega
      by_cases a3:r.Offset<=q.Offset
      ·have a4:decide (r.Offset<=q.Offset)=M:=QY a3
       have HR:=fh (De (p:=r8 rs (j+1)) (r:=r) (by rw[a1];intro h;omega));exact uB
      ·have a4:decide (r.Offset<=q.Offset)=I:=QT a3
       have HR:=fh (C7.2 (show fT r.Offset 0 1000000=M/\fT r.fH 0 59=M/\r8 rs (j+1)<r.Offset from⟨hb1,hb2,by omega⟩));go_wp2_with(fail);go_quiet ((first | (go_at_call 43;with_reducible exact vU hb1 _ _) | (go_at_call 43;with_reducible exact vU hb2 _ _)));go_wp2_with(fail);go_roundw;exact⟨(j+1)+1,by go_num,by omega,fh gG,fh (by rw[<-hE.out,xU HX.out,HR.out];simp[r8,HX.out])⟩;exact gH
  ·have a6:¬ ((k:Int)<(rs.length:Int)):=by omega
   go_wp2_with(fail);go_ret;refine⟨zo ?_,gG⟩;rw[<-hE.out,show k=rs.length from by omega,Rq];rfl
end Go.Proofs.YthgbglbaemelhaaGreat
