/-
  The law FnThreadsApart answers true for every input: each thread of a drawn process comes to what it would come to alone. No condition.
-/
import Derived.Test.YthgbglbaemelhaaGreatM26LawThreadsApart
import Derived.Test.YthgbglbaemelhaaGreatM30LawThreadsApart
import Derived.Test.YthgbglbaemelhaaGreatRows
import Derived.ShutString
set_option linter.unusedVariables false
set_option linter.unusedSimpArgs false
set_option maxRecDepth 100000
set_option maxHeartbeats 64000000
namespace Go.Proofs.YthgbglbaemelhaaGreat
open Value renaming slice->G,int->J,bool->H
open IntKind renaming i64->Z,wrap->Rg
open Option renaming none->C,some->D
open Obj renaming cells->F
open Bool renaming false->I,true->M
open Go renaming World->U,Calls->RD,Addr->RJ,TypeId->R5,yielded->Th,undef->Ug
open World renaming cell?->Rb,setCell->R6,alloc->Su
open List renaming replicate->RN,nil_append->RY
open RowKit renaming intOf->RS
open Region renaming wanted->RV,ready->Sn,noSelect->TZ,Mode->Ub,free->Wu
open _root_.Go.Proofs.Tryz
open Go.RowKit
variable {A0 A1 A2 A3:X RJ}{c0 c1 c2 c3:Nat}{w:U}{x:fO}
def tt (x:fO):Bool:=x.fq.all (fun m=>decide (m.rc=1)) && jq x
theorem Xc {g:Prop} (f:g:=by
  have ha:=yE hyk (fun m=>decide (m.rc=1))
  rw[hE.out] at ha
  have n0:=zd m0 os d
  have n1:=zd m1 os d
  have n2:=zd m2 os d
  have n3:=zd m3 os d
  have n4:=zd m4 os d
  have n5:=zd m5 os d
  have n6:=zd m6 os d
  have hki:(k:Int)<(x.fq.length:Int):=K9
  clear hyk hE m0 m1 m2 m3 m4 m5 m6
  by_cases hst:y.rc=1
  case neg=>
   have HR:=fh (show tt x=I from by rw[HQ.out,ha];simp[hst])
   have p1:(y.rc != 1)=M:=by simp[hst]
   clear ha hst
   go_wp2_with(fail)
   go_ret
   exact⟨zp HR.out.symm,hG0.trans gF⟩
  have HR:=fh (show (x.fq.drop (k+1)).all (fun m=>decide (m.rc=1))=x.fq.all (fun m=>decide (m.rc=1)) from by rw[ha];simp[hst])
  have p1:(y.rc != 1)=I:=by simp[hst]
  clear ha hst
  go_wp2_with(fail)
  go_roundw
  exact⟨k+1,Ar,K9,HR,fh gG⟩
  exact gM):g:=f
theorem zrw (h0:(iG.sl 103).R w w.heap.size [G A0 x.fk.fo.length c0] x.fk.fo)(h1:(zr.sl 3).R w w.heap.size [G A1 x.fk.ft.length c1] x.fk.ft)
  (h2:(zr.sl 3).R w w.heap.size [G A2 x.fk.ii.length c2] x.fk.ii) (h3:(zG.sl 41).R w w.heap.size [G A3 x.fq.length c3] x.fq) (hs:zN x<=1099511627776) :
  RD prog 14 #[.agg #[G A0 x.fk.fo.length c0,G A1 x.fk.ft.length c1,G A2 x.fk.ii.length c2,G A3 x.fq.length c3,J Z x.fR,J Z x.EQ,J Z x.ws]] w fun r w'=>r=.returned (H (tt x))/\fu w w':=by
 obtain⟨_,_,a1,a3,a4⟩:=kJ h3;injection a1 with e1 e2 e3
 subst e1 e3;clear e2;obtain⟨bp,hp⟩:∃ b,jq x=b:=⟨_,rfl⟩
 have HQ:=fh (show tt x=(x.fq.all (fun m=>decide (m.rc=1)) && bp) from by unfold tt;rw[hp]);have HP:=fh hp;clear hp;go_enter func14,ntmps14;go_wp2_with(fail);have hG0:fu w (w.alloc (F #[G A0 x.fk.fo.length c0,G A1 x.fk.ft.length c1,G A2 x.fk.ii.length c2,G A3 x.fq.length c3,J Z x.fR,J Z x.EQ,J Z x.ws] 34)):=gG;have eb:=Re w (F #[G A0 x.fk.fo.length c0,G A1 x.fk.ft.length c1,G A2 x.fk.ii.length c2,G A3 x.fq.length c3,J Z x.fR,J Z x.EQ,J Z x.ws] 34);have k0:=Ty.up _ h0 hG0;have k1:=Ty.up _ h1 hG0;have k2:=Ty.up _ h2 hG0;have k3:=Ty.up _ h3 hG0;obtain⟨g0,a0⟩:∃ g0,w.heap.size=g0:=⟨_,rfl⟩
 rw[a0] at eb |-;generalize (w.alloc _)=Y at hG0 eb k0 k1 k2 k3 |-;have hc:=fun k=>Sw Y g0 k _ _ (0,0) eb;have y0:Rb Y ⟨g0,0,C⟩=D (G A0 x.fk.fo.length c0):=hc 0;have y1:Rb Y ⟨g0,1,C⟩=D (G A1 x.fk.ft.length c1):=hc 1;have y2:Rb Y ⟨g0,2,C⟩=D (G A2 x.fk.ii.length c2):=hc 2;have y3:Rb Y ⟨g0,3,C⟩=D (G A3 x.fq.length c3):=hc 3;have y4:Rb Y ⟨g0,4,C⟩=D (J Z x.fR):=hc 4;have y5:Rb Y ⟨g0,5,C⟩=D (J Z x.EQ):=hc 5;have y6:Rb Y ⟨g0,6,C⟩=D (J Z x.ws):=hc 6;have yl:g0<Y.heap.size:=(blt eb)
 clear h0 h1 h2 h3 a0 hc eb;go_loopw [8] (fun z wr=>∃ k:Nat,z=J Z k/\k<=x.fq.length/\Hid ((x.fq.drop k).all (fun m=>decide (m.rc=1))=x.fq.all (fun m=>decide (m.rc=1)))/\Hid (fu Y wr)) (fun z _=>x.fq.length-(RS z).toNat)
 case atStart=>exact⟨0,rfl,Rl _,fh rfl,fh (fu.refl _)⟩
 case round=>
  obtain⟨k,rfl,hk,hE,hG⟩:=hrel;obtain⟨os,d,rfl⟩:=hG.out;clear hG;have a7:=zd y3 os d;by_cases hlt:k<x.fq.length
  ·obtain⟨g,a5,y,Aa,ca,Ab,cb,rfl,a2,hyk,m0,m1,m2,m3,m4,m5,m6,_⟩:=wA k3 hlt
   exact Xc
  ·obtain rfl:k=x.fq.length:=K9
   have HR:=fh (show tt x=bp from by rw[HQ.out,<-hE.out,RL];rfl);have z0:=zd y0 os d;have z1:=zd y1 os d;have z2:=zd y2 os d;have z3:=zd y3 os d;have z4:=zd y4 os d;have z5:=zd y5 os d;have z6:=zd y6 os d;clear hE;go_wp2_with(go_at_call 13;(with_reducible refine(zhh (x:=x) (Ty.up _ k0 gG) (Ty.up _ k1 gG) (Ty.up _ k2 gG) (Ty.up _ k3 gG) hs).mono ?_);rw[HP.out];rintro e w1 ⟨rfl,a6,d1,rfl⟩);go_ret;exact⟨zp HR.out.symm,hG0.trans gF⟩
theorem zrx (h0:(iG.sl 103).R w w.heap.size [G A0 x.fk.fo.length c0] x.fk.fo)(h1:(zr.sl 3).R w w.heap.size [G A1 x.fk.ft.length c1] x.fk.ft)
  (h2:(zr.sl 3).R w w.heap.size [G A2 x.fk.ii.length c2] x.fk.ii) (h3:(zG.sl 41).R w w.heap.size [G A3 x.fq.length c3] x.fq) (hs:zN x<=1099511627776) :
  RD prog 15 #[.agg #[G A0 x.fk.fo.length c0,G A1 x.fk.ft.length c1,G A2 x.fk.ii.length c2,G A3 x.fq.length c3,J Z x.fR,J Z x.EQ,J Z x.ws]] w fun r w'=>r=.returned (H (tt x))/\fu w w':=by
 obtain⟨_,_,a1,a3,a4⟩:=kJ h3;injection a1 with e1 e2 e3
 subst e1 e3;clear e2;obtain⟨bp,hp⟩:∃ b,jq x=b:=⟨_,rfl⟩
 have HQ:=fh (show tt x=(x.fq.all (fun m=>decide (m.rc=1)) && bp) from by unfold tt;rw[hp]);have HP:=fh hp;clear hp;go_enter func15,ntmps15;go_wp2_with(fail);have hG0:fu w (w.alloc (F #[G A0 x.fk.fo.length c0,G A1 x.fk.ft.length c1,G A2 x.fk.ii.length c2,G A3 x.fq.length c3,J Z x.fR,J Z x.EQ,J Z x.ws] 34)):=gG;have eb:=Re w (F #[G A0 x.fk.fo.length c0,G A1 x.fk.ft.length c1,G A2 x.fk.ii.length c2,G A3 x.fq.length c3,J Z x.fR,J Z x.EQ,J Z x.ws] 34);have k0:=Ty.up _ h0 hG0;have k1:=Ty.up _ h1 hG0;have k2:=Ty.up _ h2 hG0;have k3:=Ty.up _ h3 hG0;obtain⟨g0,a0⟩:∃ g0,w.heap.size=g0:=⟨_,rfl⟩
 rw[a0] at eb |-;generalize (w.alloc _)=Y at hG0 eb k0 k1 k2 k3 |-;have hc:=fun k=>Sw Y g0 k _ _ (0,0) eb;have y0:Rb Y ⟨g0,0,C⟩=D (G A0 x.fk.fo.length c0):=hc 0;have y1:Rb Y ⟨g0,1,C⟩=D (G A1 x.fk.ft.length c1):=hc 1;have y2:Rb Y ⟨g0,2,C⟩=D (G A2 x.fk.ii.length c2):=hc 2;have y3:Rb Y ⟨g0,3,C⟩=D (G A3 x.fq.length c3):=hc 3;have y4:Rb Y ⟨g0,4,C⟩=D (J Z x.fR):=hc 4;have y5:Rb Y ⟨g0,5,C⟩=D (J Z x.EQ):=hc 5;have y6:Rb Y ⟨g0,6,C⟩=D (J Z x.ws):=hc 6;have yl:g0<Y.heap.size:=(blt eb)
 clear h0 h1 h2 h3 a0 hc eb;go_loopw [3] (fun z wr=>∃ k:Nat,z=J Z k/\k<=x.fq.length/\Hid ((x.fq.drop k).all (fun m=>decide (m.rc=1))=x.fq.all (fun m=>decide (m.rc=1)))/\Hid (fu Y wr)) (fun z _=>x.fq.length-(RS z).toNat)
 case atStart=>exact⟨0,rfl,Rl _,fh rfl,fh (fu.refl _)⟩
 case round=>
  obtain⟨k,rfl,hk,hE,hG⟩:=hrel;obtain⟨os,d,rfl⟩:=hG.out;clear hG;have a7:=zd y3 os d;by_cases hlt:k<x.fq.length
  ·obtain⟨g,a5,y,Aa,ca,Ab,cb,rfl,a2,hyk,m0,m1,m2,m3,m4,m5,m6,_⟩:=wA k3 hlt
   exact Xc
  ·obtain rfl:k=x.fq.length:=K9
   have HR:=fh (show tt x=bp from by rw[HQ.out,<-hE.out,RL];rfl);have z0:=zd y0 os d;have z1:=zd y1 os d;have z2:=zd y2 os d;have z3:=zd y3 os d;have z4:=zd y4 os d;have z5:=zd y5 os d;have z6:=zd y6 os d;clear hE;go_wp2_with(go_at_call 47;(with_reducible refine(zhi (x:=x) (Ty.up _ k0 gG) (Ty.up _ k1 gG) (Ty.up _ k2 gG) (Ty.up _ k3 gG) hs).mono ?_);rw[HP.out];rintro e w1 ⟨rfl,a6,d1,rfl⟩);go_ret;exact⟨zp HR.out.symm,hG0.trans gF⟩
theorem Qd {p:Q fw} {b:fY} {b0 b1:Int} {x y:Nat} (hD:iA p)(hB:jP b=M)(h0:1<=b0/\b0<=9000)(h1:20000<=b1/\b1<=1000000)(hx:(x:Int)<3)(hy:(y:Int)<12) :
  jq (zB (zn p b b0 b1) (1+(x:Int)) (1+(y:Int))).1=M/\(zB (zn p b b0 b1) (1+(x:Int)) (1+(y:Int))).1.fk=zn p b b0 b1/\(zB (zn p b b0 b1) (1+(x:Int)) (1+(y:Int))).1.fq=RN (x+1) (oH (zn p b b0 b1)).1/\
  (zB (zn p b b0 b1) (1+(x:Int)) (1+(y:Int))).1.fR=0/\(zB (zn p b b0 b1) (1+(x:Int)) (1+(y:Int))).1.ws=1+(y:Int)/\(zB (zn p b b0 b1) (1+(x:Int)) (1+(y:Int))).1.EQ=1+(y:Int):=by
 have a1:=Ee hD.ok hD.short hD.four hB h0 h1
 have hm:zU (oH (zn p b b0 b1)).1=M:=by
  unfold oH;rw[Rs a1];exact wX.2 ⟨Sj,⟨by show (0:Int)<=1199;decide,by show (1199:Int)<=1200;decide⟩,Tz _,by show (0:Int)<=2;decide⟩
 have hn:(1+(x:Int)).toNat=x+1:=K9
 have hp:jq (pR (zn p b b0 b1) (1+(x:Int)).toNat (1+(y:Int)))=M:=by
  rw[hn];refine ym.2 ⟨a1,?_,?_,?_,?_,fun m a0=>?_⟩
  ·show 1<=(RN (x+1) _).length/\(RN (x+1) _).length<=3
   rw[Sj];omega
  ·show 0<=(0:Int)/\(0:Int)<((RN (x+1) _).length:Nat)
   rw[Sj];omega
  ·show 1<=1+(y:Int)/\1+(y:Int)<=1000
   omega
  ·show 1<=1+(y:Int)/\1+(y:Int)<=1+(y:Int)
   omega
  ·have a0:m∈RN (x+1) (oH (zn p b b0 b1)).1:=a0
   rw[Uc a0];exact hm
 have he:zB (zn p b b0 b1) (1+(x:Int)) (1+(y:Int))=(pR (zn p b b0 b1) (1+(x:Int)).toNat (1+(y:Int)),M):=by
  unfold zB;rw[Rs ⟨zu.2 ⟨K9,K9⟩,hp⟩]
 rw[he];refine⟨hp,rfl,?_,rfl,rfl,rfl⟩;show RN _ _=_;rw[hn]
theorem FI {B:Nat} (h:nC.R w B [G A0 x.fk.fo.length c0,G A1 x.fk.ft.length c1,G A2 x.fk.ii.length c2,G A3 x.fq.length c3,J Z x.fR,J Z x.EQ,J Z x.ws] x) :
  (iG.sl 103).R w B [G A0 x.fk.fo.length c0] x.fk.fo/\(zr.sl 3).R w B [G A1 x.fk.ft.length c1] x.fk.ft/\(zr.sl 3).R w B [G A2 x.fk.ii.length c2] x.fk.ii/\(zG.sl 41).R w B [G A3 x.fq.length c3] x.fq/\fE x.fR/\fE x.EQ/\fE x.ws:=by
 obtain⟨_,_,_,_,_,_,_,_,he,h0,h1,h2,h3,h4,h5,h6⟩:=MB h;simp only[TL,SY,U1,Ud] at he;obtain⟨⟨rfl,rfl⟩,⟨rfl,rfl⟩,⟨rfl,rfl⟩,⟨rfl,rfl⟩⟩:=he;exact⟨h0,h1,h2,h3,h4,h5,h6⟩
theorem Pm {l:Q Int} {k:Nat} {v:Int} (h:l[k]?=D v)(t:Int):kW (l.take (k+1)) t=if v=t then kW (l.take k) t+1 else kW (l.take k) t:=by
 unfold kW;rw[R8,h,UC,Rh];by_cases hv:v=t
 ·simp[hv]
 ·simp[hv]
theorem Qx (l:Q Int)(k:Nat)(t:Int):kW (l.take k) t<=k:=by
 unfold kW;have h1:=TU (fun k=>decide (k=t)) (l.take k);have h2:=List.length_take_le k l;omega
theorem Oa (s:gk):(oH s).1.If.length<=0:=by unfold oH;split <;> exact Ru _
theorem Xy:Static prog 11:=⟨_,func11,rfl,qo⟩
end Go.Proofs.YthgbglbaemelhaaGreat
namespace Go.Proofs.YthgbglbaemelhaaGreat.fnThreadsApart
open Value renaming slice->G,int->J,bool->H
open IntKind renaming i64->Z,wrap->Rg
open Option renaming none->C,some->D
open Obj renaming cells->F
open Bool renaming false->I,true->M
open Go renaming World->U,Calls->RD,Addr->RJ,TypeId->R5,yielded->Th,undef->Ug
open World renaming cell?->Rb,setCell->R6,alloc->Su
open List renaming replicate->RN,nil_append->RY
open RowKit renaming intOf->RS
open Region renaming wanted->RV,ready->Sn,noSelect->TZ,Mode->Ub,free->Wu
open _root_.Go.Proofs.Tryz
open Go.ChangeShapes Go.WideShapes Go.ChangeAt Go.RowKit
open Go.ChangeMaps (open_string shut_string)
theorem own:ownKnob prog.godebug=C:=Fs
theorem laidOut:laidOutB prog=M:=Fs
theorem zzm9 {g:Prop} (f:g:=by
  try simp only[gJ]
  refine fA.s1 13 (fun K hK=>?_)
  obtain⟨t0,t1,t2,t3,t4,t5,t6,tf,tl⟩:=zK e12
  go_simp
  obtain⟨e9,o9⟩:=lO e12 (J Z (jA Q9.fk own m 0).1.Pc) (J Z (jA Q9.fk own m 0).1.Sp) (J Z (jA Q9.fk own m 0).1.Fp) (G D3 (jA Q9.fk own m 0).1.pm.length h3) (G D4 (jA Q9.fk own m 0).1.If.length h4) (J Z (jA Q9.fk own m 0).1.rc) (J Z (jA Q9.fk own m 0).1.Value)
  have hgo:=fh (o9.fy HG (fun b hb=>by simp only[Rc] at hb;omega))
  have hRm:=zG.gD hRm (fun q hq=>o9.block q (zG.iY hRm q hq) (by simpa using nF q hq))
  refine hK.out _ _ ⟨(o9.cell (mY (za HG vx0)) (by simp only[Rc];exact n12.1) _).trans (za HG vx0),(o9.cell (mY (za HG vx1)) (by simp only[Rc];exact n12.1) _).trans (za HG vx1),(o9.cell (mY (za HG vx2)) (by simp only[Rc];exact n12.1) _).trans (za HG vx2),(o9.cell (mY (za HG vx3)) (by simp only[Rc];exact n12.1) _).trans (za HG vx3),(o9.cell (mY (za HG m0)) (by simp only[Rc];exact n12.2) _).trans (za HG m0),(o9.cell (mY (za HG m1)) (by simp only[Rc];exact n12.2) _).trans (za HG m1),(o9.cell (mY (za HG m2)) (by simp only[Rc];exact n12.2) _).trans (za HG m2),(o9.cell (mY (za HG m3)) (by simp only[Rc];exact n12.2) _).trans (za HG m3),(o9.cell (mY (za HG m4)) (by simp only[Rc];exact n12.2) _).trans (za HG m4),(o9.cell (mY (za HG m5)) (by simp only[Rc];exact n12.2) _).trans (za HG m5),(o9.cell (mY (za HG m6)) (by simp only[Rc];exact n12.2) _).trans (za HG m6)⟩ ?_
  clear hK t0 t1 t2 t3 t4 t5 t6 tf tl e12 o9 HG
  generalize R6 (R6 (R6 (R6 (R6 (R6 (R6 _ _ _) _ _) _ _) _ _) _ _) _ _) _ _=W9 at e9 hgo hRm |-
  try simp only[gJ]
  refine fA.sl (fun K hK=>?_)
  go_simp
  refine hK.out _ _ ?_
  clear hK
  try simp only[gJ]
  go_wp2_with(fail)
  go_meet
  exact⟨⟨_,rfl⟩,g12,D3,h3,D4,h4,QY,rfl,e9,hRm,hgo⟩):g:=f
theorem walk (w:U)(v:Value)(xs:Q UInt8)(hx:(nj.sl 5).R w w.heap.size [v] xs) :
  RD prog 3 #[v] w fun e w'=>e=.returned (H M)/\fu w w':=by
 obtain⟨A,c,rfl,ca,bY⟩:=kJ hx;by_cases hb:xs.length<=1048576
 case neg=>
  have aF:=fh (show decide (1048576<(xs.length:Int))=M from Rp K9);go_enter func3,ntmps3;go_wp2_with(go_at_call 7;refine(zwR _ _ _ _).mono ?_;rw[aF.out];rintro e w1 ⟨rfl,ar⟩);go_ret;exact⟨rfl,ar⟩
 have aF:=fh (show decide (1048576<(xs.length:Int))=I from Rk K9);go_enter func3,ntmps3;go_upto_region 3 with(go_at_call 7;refine(zwR _ _ _ _).mono ?_;rw[aF.out];rintro e w1 ⟨rfl,ar⟩);go_upto_region 4 with(go_at_call 8;(with_reducible refine(ztU (Ty.up _ hx ar) K9).mono ?_);rintro e W2 ⟨p,b,b0,b1,x,y,A2,c2,B0,d0,B1,d1,B2,d2,B3,d3,C0,f0,C1,f1,C2,f2,C3,f3,rfl,hD,hB,bi,bj,bT,aY,hP,am,aw,bb⟩);obtain⟨ay,aV,aH,bv,bs,bo⟩:=Qd hD hB bi bj bT aY;have bt:jE (zn p b b0 b1)<=10000000:=CV hD.ok hD.short hD.four hB bi bj;have aT:zN (zB (zn p b b0 b1) (1+(x:Int)) (1+(y:Int))).1<=10003603:=RG (LL _ _ _) K9;generalize (zW p b (zn p b b0 b1)).1=Q8 at am |-;generalize (zB (zn p b b0 b1) (1+(x:Int)) (1+(y:Int))).1=Q9 at ay aV aH bv bs bo aT aw |-;have e4:=Re W2 (F #[G B0 Q8.fk.fo.length d0,G B1 Q8.fk.ft.length d1,G B2 Q8.fk.ii.length d2,G B3 Q8.fV.length d3] 31);have e5:=Re (W2.alloc (F #[G B0 Q8.fk.fo.length d0,G B1 Q8.fk.ft.length d1,G B2 Q8.fk.ii.length d2,G B3 Q8.fV.length d3] 31)) (F #[G C0 Q9.fk.fo.length f0,G C1 Q9.fk.ft.length f1,G C2 Q9.fk.ii.length f2,G C3 Q9.fq.length f3,J Z Q9.fR,J Z Q9.EQ,J Z Q9.ws] 34);have e4:=zj e4 (show fu _ ((W2.alloc (F #[G B0 Q8.fk.fo.length d0,G B1 Q8.fk.ft.length d1,G B2 Q8.fk.ii.length d2,G B3 Q8.fV.length d3] 31)).alloc (F #[G C0 Q9.fk.fo.length f0,G C1 Q9.fk.ft.length f1,G C2 Q9.fk.ii.length f2,G C3 Q9.fq.length f3,J Z Q9.fR,J Z Q9.EQ,J Z Q9.ws] 34)) from gG);rw[Rz] at e5;have au:fu W2 ((W2.alloc (F #[G B0 Q8.fk.fo.length d0,G B1 Q8.fk.ft.length d1,G B2 Q8.fk.ii.length d2,G B3 Q8.fV.length d3] 31)).alloc (F #[G C0 Q9.fk.fo.length f0,G C1 Q9.fk.ft.length f1,G C2 Q9.fk.ii.length f2,G C3 Q9.fq.length f3,J Z Q9.fR,J Z Q9.EQ,J Z Q9.ws] 34)):=gG;obtain⟨g4,bk⟩:∃ q,W2.heap.size=q:=⟨_,rfl⟩
 obtain⟨g5,bl⟩:∃ q,g4+1=q:=⟨_,rfl⟩
 rw[bk] at e4 e5 |-;rw[bl] at e5 |-;have aw:=Ty.up _ aw au;have am:=Ty.up _ am au;have hP:=Ty.up _ hP au;have aL:=(ar.trans bb).trans au;clear au bk bl ar bb;generalize ((W2.alloc _).alloc _)=QV at e4 e5 aw am hP aL |-;have bW:=fh e4;have aB:=fh e5;have bC:=fh aL;have bV:=fh am;have HP:=fh hP;clear e4 am hP aL aF;obtain⟨X0,X1,X2,X3,bQ,bK,bN⟩:=FI aw;obtain⟨Q0,ag⟩:∃ Q0,rP Q9 300=Q0:=⟨_,rfl⟩
 have br:Q0=nJ 300 Q9 []:=by rw[<-ag];unfold rP;rw[Rs ⟨ay,rfl⟩];rfl
 have bh:=Fl 300 Q9 [];have aG:=FH 300 Q9 [] ay;have bq:=(Hc 300 Q9 []).1;rw[<-br] at bh aG bq;have ae:=fh (zxq (x:=Q9) (limit:=300) X0 X1 X2 X3 bQ bK bN ⟨K9,K9⟩ K9);rw[ag] at ae;clear ag br;obtain⟨P,a0⟩:=Q0;obtain⟨l',bn,bZ,aA,az,a9,aJ⟩:=bh;simp only[RY] at bn aA az a9 aJ aG bq;subst bn;have bz:=fh aJ;have b9:=fh a9;have b6:=fh aG;have bU:Q9.fq.length<=3:=by rw[aH,Sj];omega
 have ab:=(ym.1 ay).1;have aa:=(ym.1 ay).2.2.2.2.2;have b8:=fh ab;have bE:=fh aa;have bP:jE Q9.fk<=10000000:=by rw[aV];exact bt
 have bF:=fh aH;have bM:((P.fq.length:Int) != (Q9.fq.length:Int))=I:=by rw[a9];simp
 have aI:=fh (Fx X3);clear a9 aJ aG ab aa aV aH bv bs bo aA az bt;obtain⟨vx0,vx1,vx2,vx3,ah,ai,aj,ak,al⟩:=zK e5;go_upto_region 6 with(go_at_call 9;(with_reducible refine ae.out.mono ?_);rintro e W3 ⟨R0,r0,R1,r1,R2,r2,R3,r3,A8,c8,S0,S1,rfl,bf,be,_,_,_,aK⟩);have e7:=Re W3 (F #[G R0 P.fk.fo.length r0,G R1 P.fk.ft.length r1,G R2 P.fk.ii.length r2,G R3 P.fq.length r3,J Z P.fR,J Z P.EQ,J Z P.ws] 34);have av:fu W3 (W3.alloc (F #[G R0 P.fk.fo.length r0,G R1 P.fk.ft.length r1,G R2 P.fk.ii.length r2,G R3 P.fq.length r3,J Z P.fR,J Z P.EQ,J Z P.ws] 34)):=(fu.refl _).alloc _;have aM:=Ty.up _ bf.read av;have bg:=Ty.up _ be.read av;have e5:=zj (zj aB.out aK) av;have an:=aK.trans av;obtain⟨g7,bm⟩:∃ q,W3.heap.size=q:=⟨_,rfl⟩
 rw[bm] at e7 |-;clear bm bf be av vx0 vx1 vx2 vx3 ah ai aj ak al ae;have bc:=fh (bC.out.trans an);have X0:=Ty.up _ X0 an;have X1:=Ty.up _ X1 an;have X2:=Ty.up _ X2 an;have X3:=Ty.up _ X3 an;clear an aK;generalize (W3.alloc _)=Q7 at e7 e5 aM bg bc X0 X1 X2 X3 |-;obtain⟨P0,P1,P2,P3,c3,c0,c1⟩:=FI aM;have b2:=fh e7;have aB:=fh e5;obtain⟨vx0,vx1,vx2,vx3,ah,ai,aj,ak,al⟩:=zK e5;obtain⟨y0,y1,y2,y3,y4,y5,y6,yf,yl⟩:=zK e7;clear e5 e7 aM;go_wp2_with(fail);go_loopw [9] (fun z wr=>∃ t:Nat,z=J Z (t:Int)/\t<=Q9.fq.length/\Hid (fu Q7 wr)) (fun z _=>Q9.fq.length-(RS z).toNat)
 case atStart=>exact⟨0,rfl,Rl _,fh (fu.refl _)⟩
 clear vx0 vx1 vx2 vx3 ah ai aj ak al y0 y1 y2 y3 y4 y5 y6 yf yl;obtain⟨t,rfl,c4,a7⟩:=hrel;obtain⟨vx0,vx1,vx2,vx3,ah,ai,aj,ak,al⟩:=zK (zj aB.out a7.out);by_cases htlt:t<Q9.fq.length
 ·have bu:(t:Int)<(Q9.fq.length:Int):=K9
  have c7:Rg Z ((t:Int)+1)=(t:Int)+1:=iw;go_wp2_with(fail);go_loopw [10,11] (fun z10 z11 wr=>∃ k:Nat,z10=J Z ((kW (a0.take k) (t:Int):Nat):Int)/\z11=J Z (k:Int)/\k<=a0.length/\Hid (fu Q7 wr)) (fun _ z _=>a0.length-(RS z).toNat)
  case atStart=>exact⟨0,by simp[kW],rfl,Rl _,a7⟩
  clear vx0 vx1 vx2 vx3 ah ai aj ak al a7
  case round=>
   obtain⟨k,rfl,rfl,hk,a7⟩:=hrel;by_cases hkl:k<a0.length
   ·have aP:(k:Int)<(a0.length:Int):=K9
    have c6:Rg Z ((k:Int)+1)=(k:Int)+1:=iw;obtain⟨gl,ol,v,ba,bw,bX,_⟩:=lJ (Ty.up _ bg a7.out) (k:=k) hkl;have a5:=Pm bw (t:Int);have bp:kW (a0.take k) (t:Int)<=k:=Qx _ _ _;have aC:=fh a5;clear bw a5;by_cases hvt:v=(t:Int)
    ·have bR:(v == (t:Int))=M:=RQ.2 hvt
     have aW:Rg Z ((kW (a0.take k) (t:Int):Nat)+1:Int)=(kW (a0.take k) (t:Int):Nat)+1:=iw;have HV:=fh hvt;clear hvt;obtain⟨o,ho⟩:∃ o,kW (a0.take k) (t:Int)=o:=⟨_,rfl⟩
     rw[ho] at aW aC |-;clear ho;subst ba;go_wp2_with(go_at_call 10;(with_reducible refine(Qs _).mono ?_);rintro e w1 ⟨rfl,rfl⟩);go_roundw;exact⟨k+1,by rw[aC.out,Rs HV.out];rfl,Ar,K9,a7⟩;exact gM
    ·have bR:(v == (t:Int))=I:=Rm.2 hvt
     have aW:Rg Z ((kW (a0.take k) (t:Int):Nat)+0:Int)=(kW (a0.take k) (t:Int):Nat):=iw;have aX:Rg Z ((kW (a0.take k) (t:Int):Nat):Int)=(kW (a0.take k) (t:Int):Nat):=iw;have HV:=fh hvt;clear hvt;obtain⟨o,ho⟩:∃ o,kW (a0.take k) (t:Int)=o:=⟨_,rfl⟩
     rw[ho] at aW aX aC |-;clear ho;subst ba;go_wp2_with(go_at_call 10;(with_reducible refine(Qr _).mono ?_);rintro e w1 ⟨rfl,rfl⟩);go_roundw;exact⟨k+1,by rw[aC.out,Ro HV.out],Ar,K9,a7⟩;exact gM
   ·obtain rfl:k=a0.length:=K9
    have aP:¬ ((a0.length:Int)<(a0.length:Int)):=K9;rw[SC];have bp:kW a0 (t:Int)<=a0.length:=by unfold kW;exact TU _ _
    obtain⟨own,a5⟩:∃ o,kW a0 (t:Int)=o:=⟨_,rfl⟩
    rw[a5] at bp |-;have a2:=a7.out;obtain⟨vx0,vx1,vx2,vx3,ah,ai,aj,ak,al⟩:=zK (zj aB.out a7.out);obtain⟨gm,om,m,E3,k3,E4,k4,bG,bI,aR,m0,m1,m2,m3,m4,m5,m6,_,_,_,mS,mO,_,_⟩:=wA X3 (k:=t) htlt;subst bG;have m0:=za a2 m0;have m1:=za a2 m1;have m2:=za a2 m2;have m3:=za a2 m3;have m4:=za a2 m4;have m5:=za a2 m5;have m6:=za a2 m6;have af:=bz.out t m aR;rw[a5] at af;have b7:=fh af;have ax:=Rt aR;have aQ:=bE.out m ax;have b5:=fh aQ
    have ad:m=(oH (zn p b b0 b1)).1:=by
     have h1:=bF.out;rw[h1] at ax;exact Uc ax
    have b4:=fh (show kX 0 m from by
     obtain⟨i1,i2,i3,i4,i5⟩:=aI.out m ax
     exact⟨(wX.1 aQ).1,by rw[ad];exact Oa _,i1,i2,i3,i4,i5⟩)
    clear af ax aQ ad a5 aR bI;go_upto_region 16 with(fail);go_cut [12,13] from 57 to 69 (fun v12 v13 wx=>(∃ z,v13=J Z z)/\∃(g12:Nat) (D3:X RJ) (h3:Nat) (D4:X RJ) (h4:Nat) (QY:Q Nat),v12=.pointer (D ⟨g12,0,C⟩)/\wx.heap[g12]?=D (F #[J Z (jA Q9.fk own m 0).1.Pc,J Z (jA Q9.fk own m 0).1.Sp,J Z (jA Q9.fk own m 0).1.Fp,G D3 (jA Q9.fk own m 0).1.pm.length h3,G D4 (jA Q9.fk own m 0).1.If.length h4,J Z (jA Q9.fk own m 0).1.rc,J Z (jA Q9.fk own m 0).1.Value] 41 (0,0))/\zG.O wx [J Z (jA Q9.fk own m 0).1.Pc,J Z (jA Q9.fk own m 0).1.Sp,J Z (jA Q9.fk own m 0).1.Fp,G D3 (jA Q9.fk own m 0).1.pm.length h3,G D4 (jA Q9.fk own m 0).1.If.length h4,J Z (jA Q9.fk own m 0).1.rc,J Z (jA Q9.fk own m 0).1.Value] (jA Q9.fk own m 0).1 QY/\Hid (fu wr wx))
    case first=>
     refine zX (fun w'=>Rb w' ⟨g5,0,C⟩=D (G C0 Q9.fk.fo.length f0)/\Rb w' ⟨g5,1,C⟩=D (G C1 Q9.fk.ft.length f1)/\Rb w' ⟨g5,2,C⟩=D (G C2 Q9.fk.ii.length f2)/\Rb w' ⟨g5,3,C⟩=D (G (D ⟨gm,om,C⟩) Q9.fq.length f3)/\Rb w' ⟨gm,om+t*7,C⟩=D (J Z m.Pc)/\Rb w' ⟨gm,om+t*7+1,C⟩=D (J Z m.Sp)/\Rb w' ⟨gm,om+t*7+2,C⟩=D (J Z m.Fp)/\Rb w' ⟨gm,om+t*7+3,C⟩=D (G E3 m.pm.length k3)/\Rb w' ⟨gm,om+t*7+4,C⟩=D (G E4 m.If.length k4)/\Rb w' ⟨gm,om+t*7+5,C⟩=D (J Z m.rc)/\Rb w' ⟨gm,om+t*7+6,C⟩=D (J Z m.Value)) 14 Fs ⟨zc vx0,zc vx1,zc vx2,zc vx3,zc m0,zc m1,zc m2,zc m3,zc m4,zc m5,zc m6⟩ (fun hH=>?_);have HG:fu wr wr.drew:=(fu.refl _).drew;generalize wr.drew=Wx at HG hH |-;refine .tq 0 [14] hH ?_
     try simp only[gJ]
     refine .tq 1 [14] hH ?_
     try simp only[gJ]
     refine .tq 2 [14] hH ?_
     try simp only[gJ]
     refine .tq 3 [14] hH ?_
     try simp only[gJ]
     refine .tq 4 [14] hH ?_
     try simp only[gJ]
     refine .tq 5 [14] hH ?_
     try simp only[gJ]
     refine .tq 6 [14] hH ?_
     try simp only[gJ]
     refine .tq 7 [14] hH ?_
     try simp only[gJ]
     refine fA.s2 8 12 (fun K hK=>?_) (fun K hK=>?_)
     ·have ap:=fh (zvp (s:=Q9.fk) (m:=m) (Ra:=0) (L:=own) (Ty.up _ X0 (a2.trans HG)) (Ty.up _ X1 (a2.trans HG)) (Ty.up _ X2 (a2.trans HG)) (Ty.up _ mS (a2.trans HG)) (Ty.up _ mO (a2.trans HG)) b8.out K9 b4.out b5.out K9 K9)
      refine rv Xy rfl rfl ap.out (by go_simp) ?_;rintro e v8 ⟨D3,h3,D4,h4,QY,rfl,hRm,aD,hg⟩;refine⟨_,rfl,?_⟩;clear ap;have HG:=HG.trans hg;clear hg aD;refine hK.out _ _ ⟨za HG vx0,za HG vx1,za HG vx2,za HG vx3,za HG m0,za HG m1,za HG m2,za HG m3,za HG m4,za HG m5,za HG m6⟩ ?_;clear hK
      try simp only[gJ]
      refine .tq 9 [14] ⟨za HG vx0,za HG vx1,za HG vx2,za HG vx3,za HG m0,za HG m1,za HG m2,za HG m3,za HG m4,za HG m5,za HG m6⟩ ?_
      try simp only[gJ]
      refine .tq 10 [14] ⟨za HG vx0,za HG vx1,za HG vx2,za HG vx3,za HG m0,za HG m1,za HG m2,za HG m3,za HG m4,za HG m5,za HG m6⟩ ?_
      try simp only[gJ]
      refine .tq 11 [14] ⟨za HG vx0,za HG vx1,za HG vx2,za HG vx3,za HG m0,za HG m1,za HG m2,za HG m3,za HG m4,za HG m5,za HG m6⟩ ?_
      try simp only[gJ]
      refine fA.s1 12 (fun K hK=>?_);go_simp;have hg:fu v8 (v8.alloc (F #[J Z 0,J Z 0,J Z 0,G C 0 0,G C 0 0,J Z 0,J Z 0] 41)):=(fu.refl _).alloc _;have e12:=Re v8 (F #[J Z 0,J Z 0,J Z 0,G C 0 0,G C 0 0,J Z 0,J Z 0] 41);have aZ:wr.heap.size<=v8.heap.size:=HG.size;have n12:g5≠v8.heap.size/\gm≠v8.heap.size:=by have h1:=mY (za HG vx0);have h2:=mY (za HG m0);omega
      have nF:∀ q∈QY,q≠v8.heap.size:=fun q hq=>UW (zG.iY hRm q hq);have hRm:=zG.jh hRm hg;have HG:=HG.trans hg;clear hg;refine hK.out _ _ ⟨za HG vx0,za HG vx1,za HG vx2,za HG vx3,za HG m0,za HG m1,za HG m2,za HG m3,za HG m4,za HG m5,za HG m6⟩ ?_;clear hK;obtain⟨g12,aq⟩:∃ q,v8.heap.size=q:=⟨_,rfl⟩
      rw[aq] at e12 aZ n12 nF |-;clear aq;generalize Su v8 (F #[J Z 0,J Z 0,J Z 0,G C 0 0,G C 0 0,J Z 0,J Z 0] 41)=Vg at e12 HG hRm |-;exact zzm9
     ·go_simp
      have hg:fu Wx (Wx.alloc (F #[J Z 0,J Z 0,J Z 0,G C 0 0,G C 0 0,J Z 0,J Z 0] 41)):=(fu.refl _).alloc _;have e12:=Re Wx (F #[J Z 0,J Z 0,J Z 0,G C 0 0,G C 0 0,J Z 0,J Z 0] 41);have aZ:wr.heap.size<=Wx.heap.size:=HG.size;have n12:g5≠Wx.heap.size/\gm≠Wx.heap.size:=by have h1:=mY (za HG vx0);have h2:=mY (za HG m0);omega
      have HG:=HG.trans hg;clear hg;refine hK.out _ _ ⟨za HG vx0,za HG vx1,za HG vx2,za HG vx3,za HG m0,za HG m1,za HG m2,za HG m3,za HG m4,za HG m5,za HG m6⟩ ?_;clear hK;obtain⟨g12,aq⟩:∃ q,Wx.heap.size=q:=⟨_,rfl⟩
      rw[aq] at e12 aZ n12 |-;clear aq;generalize Su Wx (F #[J Z 0,J Z 0,J Z 0,G C 0 0,G C 0 0,J Z 0,J Z 0] 41)=Vg at e12 HG |-
      try simp only[gJ]
      refine fA.s1 8 (fun K hK=>?_);have ap:=fh (zvp (s:=Q9.fk) (m:=m) (Ra:=0) (L:=own) (Ty.up _ X0 (a2.trans HG)) (Ty.up _ X1 (a2.trans HG)) (Ty.up _ X2 (a2.trans HG)) (Ty.up _ mS (a2.trans HG)) (Ty.up _ mO (a2.trans HG)) b8.out K9 b4.out b5.out K9 K9);refine rv Xy rfl rfl ap.out (by go_simp) ?_;rintro e v8 ⟨D3,h3,D4,h4,QY,rfl,hRm,aD,hg⟩;refine⟨_,rfl,?_⟩;clear ap;have nF:∀ q∈QY,q≠g12:=fun q hq=>by have h1:=aD q hq;have h2:=(blt e12);omega
      have e12:=zj e12 hg;have HG:=HG.trans hg;clear hg aD;refine hK.out _ _ ⟨za HG vx0,za HG vx1,za HG vx2,za HG vx3,za HG m0,za HG m1,za HG m2,za HG m3,za HG m4,za HG m5,za HG m6⟩ ?_;clear hK
      try simp only[gJ]
      refine .tq 9 [14] ⟨za HG vx0,za HG vx1,za HG vx2,za HG vx3,za HG m0,za HG m1,za HG m2,za HG m3,za HG m4,za HG m5,za HG m6⟩ ?_
      try simp only[gJ]
      refine .tq 10 [14] ⟨za HG vx0,za HG vx1,za HG vx2,za HG vx3,za HG m0,za HG m1,za HG m2,za HG m3,za HG m4,za HG m5,za HG m6⟩ ?_
      try simp only[gJ]
      refine .tq 11 [14] ⟨za HG vx0,za HG vx1,za HG vx2,za HG vx3,za HG m0,za HG m1,za HG m2,za HG m3,za HG m4,za HG m5,za HG m6⟩ ?_;exact zzm9
    obtain⟨⟨zz,rfl⟩,g12,D3,h3,D4,h4,QY,rfl,e12,hO,b3⟩:=hcut;clear m0 m1 m2 m3 m4 m5 m6 vx0 vx1 vx2 vx3 ah ai aj ak al;obtain⟨q,hq⟩:∃ q,(jA Q9.fk own m 0).1=q:=⟨_,rfl⟩
    rw[hq] at e12 hO b7;clear hq;have aE:=a2.trans b3.out;obtain⟨aS,aO⟩:=F4 (Ty.read _ hO);obtain⟨t0,t1,t2,t3,t4,t5,t6,_,_⟩:=zK e12;obtain⟨y0,y1,y2,y3,y4,y5,y6,_,_⟩:=zK (zj b2.out aE);obtain⟨gn,on,q',G3,l3,G4,l4,bH,bJ,aU,q0,q1,q2,q3,q4,q5,q6,_,_,_,bS,bO,_,_⟩:=wA (Ty.up _ P3 aE) (k:=t) (by rw[b9.out];exact htlt);subst bH;obtain rfl:q=q':=by have h:=b7.out;rw[aU] at h;injection h with h;exact h.symm
    have c5:(t:Int)<(P.fq.length:Int):=by rw[b9.out];exact bu
    have bx:jV q<=10003903:=by
     have h1:=tS jV aU;have h2:zN P=jE P.fk+lI jV P.fq:=rfl;omega
    have cc:q.pm.length<=1099511627776/\q.If.length<=1099511627776:=by unfold jV at bx;omega
    have bD:=fh aE;clear aE aU e12 t1 t2 t6 y0 y1 y2 y4 y5 y6 q1 q2 q6 hO b3 bx mS mO bJ;go_upto_region 17 with(fail);refine zX (fun w'=>Rb w' ⟨g12,0,C⟩=D (J Z q.Pc)/\Rb w' ⟨g12,3,C⟩=D (G D3 q.pm.length h3)/\Rb w' ⟨g12,4,C⟩=D (G D4 q.If.length h4)/\Rb w' ⟨g12,5,C⟩=D (J Z q.rc)/\Rb w' ⟨g7,3,C⟩=D (G (D ⟨gn,on,C⟩) P.fq.length r3)/\Rb w' ⟨gn,on+t*7,C⟩=D (J Z q.Pc)/\Rb w' ⟨gn,on+t*7+3,C⟩=D (G G3 q.pm.length l3)/\Rb w' ⟨gn,on+t*7+4,C⟩=D (G G4 q.If.length l4)/\Rb w' ⟨gn,on+t*7+5,C⟩=D (J Z q.rc)) 43 Fs (Rf (zc t0) (Rf (zc t3) (Rf (zc t4) (Rf (zc t5) (Rf (zc y3) (Rf (zc q0) (Rf (zc q3) (Rf (zc q4) (zc q5))))))))) (fun hH=>?_);have a6:fu wc wc.drew:=(fu.refl _).drew;clear t0 t3 t4 t5 y3 q0 q3 q4 q5;generalize wc.drew=wx at a6 hH |-;obtain⟨t0,t3,t4,t5,y3,q0,q3,q4,q5⟩:=id hH;refine .tk 0 [1,8,9,20,21,32,33,43] hH ?_;refine .tk 1 [8,9,20,21,32,33,43] hH ?_;refine .tk 2 [3,5,6,7,8,9,20,21,32,33,43] hH ?_;refine .tk 3 [5,6,7,8,9,20,21,32,33,43] hH ?_;refine .tk 4 [5,6,7,8,9,20,21,32,33,43] hH ?_;refine .tk 5 [6,7,8,9,20,21,32,33,43] hH ?_;refine .tk 6 [7,8,9,20,21,32,33,43] hH ?_;refine .tk 7 [8,9,20,21,32,33,43] hH ?_;refine .tk 8 [9,20,21,32,33,43] hH ?_;refine .tk 9 [20,21,32,33,43] hH ?_;refine .tk 10 [11,18,21,32,33,43] hH ?_;refine .tk 11 [18,21,32,33,43] hH ?_;refine .tk 12 [13,15,16,17,18,21,32,33,43] hH ?_;refine .tk 13 [15,16,17,18,21,32,33,43] hH ?_;refine .tk 14 [15,16,17,18,21,32,33,43] hH ?_;refine .tk 15 [16,17,18,21,32,33,43] hH ?_;refine .tk 16 [17,18,21,32,33,43] hH ?_;refine .tk 17 [18,21,32,33,43] hH ?_;refine fA.one (i:=18) Fs rfl (fun K hK=>?_);go_simp;go_at_call 12
    with_reducible refine(zlU (Ty.up _ aS a6) (Ty.up _ bS a6) K9).mono ?_
    rintro e v1 ⟨rfl,a1⟩;have a4:=a6.trans a1;have t0:=za a1 t0;have t3:=za a1 t3;have t4:=za a1 t4;have t5:=za a1 t5;have y3:=za a1 y3;have q0:=za a1 q0;have q3:=za a1 q3;have q4:=za a1 q4;have q5:=za a1 q5;refine hK.out _ _ (Rf t0 (Rf t3 (Rf t4 (Rf t5 (Rf y3 (Rf q0 (Rf q3 (Rf q4 q5)))))))) (fun hI=>?_);clear hK hH;have hH:=hI
    try simp only[lay]
    refine .tk 19 [20,21,32,33,43] hH ?_;refine .tk 20 [21,32,33,43] hH ?_;refine .tk 21 [32,33,43] hH ?_;refine .tk 22 [23,30,33,43] hH ?_;refine .tk 23 [30,33,43] hH ?_;refine .tk 24 [25,27,28,29,30,33,43] hH ?_;refine .tk 25 [27,28,29,30,33,43] hH ?_;refine .tk 26 [27,28,29,30,33,43] hH ?_;refine .tk 27 [28,29,30,33,43] hH ?_;refine .tk 28 [29,30,33,43] hH ?_;refine .tk 29 [30,33,43] hH ?_;refine fA.one (i:=30) Fs rfl (fun K hK=>?_);go_simp;go_at_call 12
    with_reducible refine(zlU (Ty.up _ aO a4) (Ty.up _ bO a4) K9).mono ?_
    rintro e v2 ⟨rfl,a3⟩;have a8:=a4.trans a3;have t0:=za a3 t0;have t3:=za a3 t3;have t4:=za a3 t4;have t5:=za a3 t5;have y3:=za a3 y3;have q0:=za a3 q0;have q3:=za a3 q3;have q4:=za a3 q4;have q5:=za a3 q5;refine hK.out _ _ (Rf t0 (Rf t3 (Rf t4 (Rf t5 (Rf y3 (Rf q0 (Rf q3 (Rf q4 q5)))))))) (fun hI=>?_);clear hK hH;have hH:=hI
    try simp only[lay]
    refine .tk 31 [32,33,43] hH ?_;refine .tk 32 [33,43] hH ?_;refine .tk 33 [43] hH ?_;refine .tk 34 [35,42,43] hH ?_;refine .tk 35 [42,43] hH ?_;refine .tk 36 [37,39,40,41,42,43] hH ?_;refine .tk 37 [39,40,41,42,43] hH ?_;refine .tk 38 [39,40,41,42,43] hH ?_;refine .tk 39 [40,41,42,43] hH ?_;refine .tk 40 [41,42,43] hH ?_;refine .tk 41 [42,43] hH ?_;refine .tk 42 [43] hH ?_;refine fA.last Fs rfl Fs (fun K hK=>?_);go_simp;refine hK.out _ _ ?_;clear hK
    try simp only[lay]
    go_wp2_with(fail);go_roundw;exact⟨t+1,Ar,K9,fh (bD.out.trans a8)⟩;exact gM
 ·obtain rfl:t=Q9.fq.length:=K9
  have bu:¬ ((Q9.fq.length:Int)<(Q9.fq.length:Int)):=K9;have a2:=a7.out;obtain⟨y0,y1,y2,y3,y4,y5,y6,_,_⟩:=zK (zj b2.out a2);have ao:=fh (fun(W:U) (hg:fu Q7 W)=>zhh (x:=P) (Ty.up _ P0 hg) (Ty.up _ P1 hg) (Ty.up _ P2 hg) (Ty.up _ P3 hg) K9);have bA:=fh (fun(W:U) (hg:fu Q7 W)=>zrw (x:=P) (Ty.up _ P0 hg) (Ty.up _ P1 hg) (Ty.up _ P2 hg) (Ty.up _ P3 hg) K9);have bB:=fh (fun(W:U) (hg:fu Q7 W)=>zrx (x:=P) (Ty.up _ P0 hg) (Ty.up _ P1 hg) (Ty.up _ P2 hg) (Ty.up _ P3 hg) K9);have bd:=bc.out.trans a2;by_cases h300:a0.length=300
  ·have bL:((a0.length:Int) == 300)=M:=by rw[h300];rfl
   go_upto_region 19 with(fail);refine zX (fun w'=>Rb w' ⟨g7,0,C⟩=D (G R0 P.fk.fo.length r0)/\Rb w' ⟨g7,1,C⟩=D (G R1 P.fk.ft.length r1)/\Rb w' ⟨g7,2,C⟩=D (G R2 P.fk.ii.length r2)/\Rb w' ⟨g7,3,C⟩=D (G R3 P.fq.length r3)/\Rb w' ⟨g7,4,C⟩=D (J Z P.fR)/\Rb w' ⟨g7,5,C⟩=D (J Z P.EQ)/\Rb w' ⟨g7,6,C⟩=D (J Z P.ws)) 15 Fs (Rf (zc y0) (Rf (zc y1) (Rf (zc y2) (Rf (zc y3) (Rf (zc y4) (Rf (zc y5) (zc y6))))))) (fun hH=>?_);have a6:fu wr wr.drew:=(fu.refl _).drew;clear y0 y1 y2 y3 y4 y5 y6;generalize wr.drew=wx at a6 hH |-;obtain⟨y0,y1,y2,y3,y4,y5,y6⟩:=id hH;refine .tk 0 [15] hH ?_;refine fA.one (i:=1) Fs rfl (fun K hK=>?_);go_simp;go_at_call 13
   with_reducible refine(ao.out _ (a2.trans a6)).mono ?_;rw[b6.out]
   rintro e v1 ⟨rfl,a1⟩;have a4:=a6.trans a1;have y0:=za a1 y0;have y1:=za a1 y1;have y2:=za a1 y2;have y3:=za a1 y3;have y4:=za a1 y4;have y5:=za a1 y5;have y6:=za a1 y6;refine hK.out _ _ (Rf y0 (Rf y1 (Rf y2 (Rf y3 (Rf y4 (Rf y5 y6)))))) (fun hI=>?_);clear hK hH;have hH:=hI
   try simp only[lay]
   refine .tk 2 [15] hH ?_;refine .tk 3 [15] hH ?_;refine .tk 4 [15] hH ?_;refine .tk 5 [15] hH ?_;refine .tk 6 [15] hH ?_;refine .tk 7 [15] hH ?_;refine .sk 8 [15] hH ?_;refine .sk 9 [15] hH ?_;refine .sk 10 [15] hH ?_;refine .sk 11 [15] hH ?_;refine .sk 12 [15] hH ?_;refine .tk 13 [15] hH ?_;refine .tk 14 [15] hH ?_;refine fA.last Fs rfl Fs (fun K hK=>?_);go_simp;refine hK.out _ _ ?_;clear hK
   try simp only[lay]
   go_wp2_with(fail);go_ret;exact⟨rfl,bd.trans a4⟩
  ·have bL:((a0.length:Int) == 300)=I:=Rm.2 K9
   go_upto_region 19 with(fail);refine zX (fun w'=>Rb w' ⟨g7,0,C⟩=D (G R0 P.fk.fo.length r0)/\Rb w' ⟨g7,1,C⟩=D (G R1 P.fk.ft.length r1)/\Rb w' ⟨g7,2,C⟩=D (G R2 P.fk.ii.length r2)/\Rb w' ⟨g7,3,C⟩=D (G R3 P.fq.length r3)/\Rb w' ⟨g7,4,C⟩=D (J Z P.fR)/\Rb w' ⟨g7,5,C⟩=D (J Z P.EQ)/\Rb w' ⟨g7,6,C⟩=D (J Z P.ws)) 15 Fs (Rf (zc y0) (Rf (zc y1) (Rf (zc y2) (Rf (zc y3) (Rf (zc y4) (Rf (zc y5) (zc y6))))))) (fun hH=>?_);have a6:fu wr wr.drew:=(fu.refl _).drew;clear y0 y1 y2 y3 y4 y5 y6;generalize wr.drew=wx at a6 hH |-;obtain⟨y0,y1,y2,y3,y4,y5,y6⟩:=id hH;refine .tk 0 [15] hH ?_;refine fA.one (i:=1) Fs rfl (fun K hK=>?_);go_simp;go_at_call 13
   with_reducible refine(ao.out _ (a2.trans a6)).mono ?_;rw[b6.out]
   rintro e v1 ⟨rfl,a1⟩;have a4:=a6.trans a1;have y0:=za a1 y0;have y1:=za a1 y1;have y2:=za a1 y2;have y3:=za a1 y3;have y4:=za a1 y4;have y5:=za a1 y5;have y6:=za a1 y6;refine hK.out _ _ (Rf y0 (Rf y1 (Rf y2 (Rf y3 (Rf y4 (Rf y5 y6)))))) (fun hI=>?_);clear hK hH;have hH:=hI
   try simp only[lay]
   refine .tk 2 [15] hH ?_;refine .tk 3 [15] hH ?_;refine .tk 4 [15] hH ?_;refine .tk 5 [15] hH ?_;refine .tk 6 [15] hH ?_;refine .tk 7 [15] hH ?_;refine .tk 8 [15] hH ?_;refine .tk 10 [15] hH ?_;refine fA.one (i:=9) Fs rfl (fun K hK=>?_);go_simp;go_at_call 14
   with_reducible refine(bA.out _ (a2.trans a4)).mono ?_
   rintro e v2 ⟨rfl,a3⟩;have a8:=a4.trans a3;have y0:=za a3 y0;have y1:=za a3 y1;have y2:=za a3 y2;have y3:=za a3 y3;have y4:=za a3 y4;have y5:=za a3 y5;have y6:=za a3 y6;refine hK.out _ _ (Rf y0 (Rf y1 (Rf y2 (Rf y3 (Rf y4 (Rf y5 y6)))))) (fun hI=>?_);clear hK hH;have hH:=hI
   try simp only[lay]
   refine fA.one (i:=11) Fs rfl (fun K hK=>?_);go_simp;go_at_call 15
   with_reducible refine(bB.out _ (a2.trans a8)).mono ?_
   rintro e v3 ⟨rfl,ac⟩;have aN:=a8.trans ac;have y0:=za ac y0;have y1:=za ac y1;have y2:=za ac y2;have y3:=za ac y3;have y4:=za ac y4;have y5:=za ac y5;have y6:=za ac y6;refine hK.out _ _ (Rf y0 (Rf y1 (Rf y2 (Rf y3 (Rf y4 (Rf y5 y6)))))) (fun hI=>?_);clear hK hH;have hH:=hI
   try simp only[lay]
   refine .tk 12 [15] hH ?_;refine .tk 13 [15] hH ?_;refine .tk 14 [15] hH ?_;refine fA.last Fs rfl Fs (fun K hK=>?_);go_simp;refine hK.out _ _ ?_;clear hK
   try simp only[lay]
   go_wp2_with(fail);go_ret;exact⟨rfl,bd.trans aN⟩
theorem lifted (os:Os)(started:os.Started)(Q6:Type)(enc:R5 × Value->Q6) :
  ReturnsInHanded {} Tryz.checked os 3 .any (Rows.fnThreadsApartSpec.pre6 enc prog f3 Rows.fnThreadsApartRow.domain I) (Rows.fnThreadsApartSpec.post enc prog f3 I M I I):=by
 refine returnsInHanded_of_change (C:=Tryz.checked) own started Fs func3
  (ChangeSpec.witness6 (enc:=enc) (C:=Tryz.checked) I ⟨#[],#[G C 0 0],[]⟩ 8 Fs Fs Fs Fs) ?_
 intro W base a1 ds gs a4 a2 hW a9 _;have a3:∀(j:Nat) t v,f3.params[j]?=D t->a1[j]?=D v->Value.okWide prog W .any base t v:=a2;have a8:=hW;obtain⟨p,q,a6,hV,rfl,ac,ad⟩:=hW;have hA:DataW.TrodAll enc prog W 0 (fun _=>M) M f3.params.toList a1.toList ds p:=a6;rw[Tryz.params3] at hA a3;obtain⟨v0,ae,d0,ab,p0,q0,a7,rfl,rfl,h0,r0⟩:=trodAll_cons hA;obtain⟨rfl,rfl,rfl⟩:=trodAll_nil r0;obtain rfl:a1=#[v0]:=by cases a1;simp_all
 obtain⟨rfl,rfl⟩:=trodVars_none hV;have k0:=h0;have aa:∀ x∈p0,x.block<W.heap.size:=by obtain⟨m,hm⟩:=k0;exact DataW.trod_lt m _ _ _ hm
 obtain⟨a0,w0⟩:=OP (Pj (e':=5) underlying22 Fs qo (LP underlying5)) h0;rw[MT underlying22 (a3 0 22 v0 rfl rfl)] at w0;clear a6 a2;refine(walk W v0 a0 w0).mono fun e W' ⟨he,hgro⟩=>?_;subst he;have a5:=hgro.below;exact⟨_,rfl,_,_,_,[],_,[],a8,trodAll_mk1 (shut_bool underlying4 _),(trodAll_cons_mk (Below.trod laidOut Fs (TJ Fs) k0 a5 aa) trodAll_mk0),rfl,a5.frame _,fun h=>by cases h⟩
theorem over:Rows.fnThreadsApartRow.holds Tryz.pinned (OpenSpec.ofChange Rows.fnThreadsApartSpec):=
 OpenClaim.holds_of_wide 3 f3 rfl rfl rfl rfl rfl rfl rfl ⟨rfl,rfl,rfl,rfl,rfl⟩ rfl rfl rfl rfl rfl Fs func3 Fs
  (TJ Fs) (by unfold Func.isWrapper;first | (rw[Rs (by decide +kernel)];kernel_rfl) | (rw[Ro (by decide +kernel)];exact⟨rfl,rfl⟩))
  (fun os started Q6 enc _=>lifted os started Q6 enc)
theorem proved:Rows.FnThreadsApartSaid:=over
#print axioms proved
end Go.Proofs.YthgbglbaemelhaaGreat.fnThreadsApart
