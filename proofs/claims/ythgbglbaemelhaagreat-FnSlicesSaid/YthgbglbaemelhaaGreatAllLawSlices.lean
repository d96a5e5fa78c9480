/-
  The law FnSlices answers true for every input: no thread waits while it runs for longer than the slices of the others. No condition.
-/
import Derived.Test.YthgbglbaemelhaaGreatM44LawSlices
import Derived.Test.YthgbglbaemelhaaGreatM49LawSlices
import Derived.Test.YthgbglbaemelhaaGreatRows
import Derived.ShutString
set_option linter.unusedVariables false
set_option linter.unusedSimpArgs false
set_option maxRecDepth 100000
set_option maxHeartbeats 8000000
namespace Go.Proofs.YthgbglbaemelhaaGreat
open Value renaming slice->G,int->J,bool->H
open IntKind renaming i64->C,wrap->QP
open Option renaming none->D,some->Z
open Obj renaming cells->F
open Bool renaming false->I,true->M
open Go renaming World->U,Calls->Rh,Addr->Ri,yielded->Su,undef->TE
open World renaming cell?->QL
open _root_.Int renaming toNat_natCast->Ra
open List renaming replicate->Ro,nil_append->RC
open RowKit renaming intOf->Ry
open Region renaming wanted->Rx,ready->RL,noSelect->Tn,Mode->Ts,free->Ui
open _root_.Go.Proofs.Tryz
open Go.RowKit
theorem Pn {p:Q fv}{b:fV}{b0 b1:Int}{x y:Nat}(hD:iz p)(hB:jM b=M)(h0:1<=b0/\b0<=9000)(h1:20000<=b1/\b1<=1000000)(hx:(x:Int)<3)(hy:(y:Int)<12) :
  jd (zx (zn p b b0 b1) (1+(x:Int)) (1+(y:Int))).1=M/\(zx (zn p b b0 b1) (1+(x:Int)) (1+(y:Int))).1.fo=zn p b b0 b1/\(zx (zn p b b0 b1) (1+(x:Int)) (1+(y:Int))).1.fk=Ro (x+1) (oy (zn p b b0 b1)).1/\
  (zx (zn p b b0 b1) (1+(x:Int)) (1+(y:Int))).1.fO=0/\(zx (zn p b b0 b1) (1+(x:Int)) (1+(y:Int))).1.Slice=1+(y:Int)/\(zx (zn p b b0 b1) (1+(x:Int)) (1+(y:Int))).1.Left=1+(y:Int):=by
 have a1:=Dz hD.ok hD.short hD.four hB h0 h1
 have hm:zM (oy (zn p b b0 b1)).1=M:=by
  unfold oy;rw[Q5 a1];exact xE.2 ⟨RJ,⟨by show (0:Int)<=1199;decide,by show (1199:Int)<=1200;decide⟩,SK _,by show (0:Int)<=2;decide⟩
 have hn:(1+(x:Int)).toNat=x+1:=by omega
 have hp:jd (pD (zn p b b0 b1) (1+(x:Int)).toNat (1+(y:Int)))=M:=by
  rw[hn];refine te.2 ⟨a1,?_,?_,?_,?_,fun m a0=>?_⟩
  ·show 1<=(Ro (x+1) _).length/\(Ro (x+1) _).length<=3
   rw[RJ];omega
  ·show 0<=(0:Int)/\(0:Int)<((Ro (x+1) _).length:Nat)
   rw[RJ];omega
  ·show 1<=1+(y:Int)/\1+(y:Int)<=1000
   omega
  ·show 1<=1+(y:Int)/\1+(y:Int)<=1+(y:Int)
   omega
  ·have a0:m∈Ro (x+1) (oy (zn p b b0 b1)).1:=a0
   rw[TF a0];exact hm
 have he:zx (zn p b b0 b1) (1+(x:Int)) (1+(y:Int))=(pD (zn p b b0 b1) (1+(x:Int)).toNat (1+(y:Int)),M):=by
  unfold zx;rw[Q5 ⟨zu.2 ⟨by omega,by omega⟩,hp⟩]
 rw[he];refine⟨hp,rfl,?_,rfl,rfl,rfl⟩;show Ro _ _=_;rw[hn]
theorem FA {w:U}{B:Nat}{x:fK}{A0 A1 A2 A3:X Ri}{c0 c1 c2 c3:Nat}(h:mS.R w B [G A0 x.fo.fq.length c0,G A1 x.fo.fu.length c1,G A2 x.fo.Entries.length c2,G A3 x.fk.length c3,J C x.fO,J C x.Left,J C x.Slice] x) :
  (iL.sl 103).R w B [G A0 x.fo.fq.length c0] x.fo.fq/\(zr.sl 3).R w B [G A1 x.fo.fu.length c1] x.fo.fu/\(zr.sl 3).R w B [G A2 x.fo.Entries.length c2] x.fo.Entries/\(jX.sl 41).R w B [G A3 x.fk.length c3] x.fk/\fD x.fO/\fD x.Left/\fD x.Slice:=by
 obtain⟨_,_,_,_,_,_,_,_,he,h0,h1,h2,h3,h4,h5,h6⟩:=Mk h;simp only[TB,St,UL,TO] at he;obtain⟨⟨rfl,rfl⟩,⟨rfl,rfl⟩,⟨rfl,rfl⟩,⟨rfl,rfl⟩⟩:=he;exact⟨h0,h1,h2,h3,h4,h5,h6⟩
end Go.Proofs.YthgbglbaemelhaaGreat
namespace Go.Proofs.YthgbglbaemelhaaGreat.fnSlices
open Value renaming slice->G,int->J,bool->H
open IntKind renaming i64->C,wrap->QP
open Option renaming none->D,some->Z
open Obj renaming cells->F
open Bool renaming false->I,true->M
open Go renaming World->U,Calls->Rh,Addr->Ri,yielded->Su,undef->TE
open World renaming cell?->QL
open _root_.Int renaming toNat_natCast->Ra
open List renaming replicate->Ro,nil_append->RC
open RowKit renaming intOf->Ry
open Region renaming wanted->Rx,ready->RL,noSelect->Tn,Mode->Ts,free->Ui
open _root_.Go.Proofs.Tryz
open Go.ChangeShapes Go.WideShapes Go.ChangeAt Go.RowKit
open Go.ChangeMaps (open_string shut_string)
theorem own:ownKnob prog.godebug=D:=by kernel_rfl
theorem laidOut:laidOutB prog=M:=by kernel_rfl
theorem zzm30 {g:Prop} (f:g:=by
  refine fA.last (by kernel_rfl) rfl (by kernel_rfl) (fun K hK=>?_)
  go_simp
  refine hK.out _ _ ?_
  clear hK
  try simp only[lay]
  go_wp2_with(fail)
  go_roundw
  exact⟨k1,nw,rfl,rfl,by omega,hnw,fh HWT.out.2,fh ((HGr.out.trans HGx.out).trans hdr)⟩
  exact gH):g:=f
theorem walk (w:U)(v:Value)(xs:Q UInt8)(hx:(mX.sl 5).R w w.heap.size [v] xs) :
  Rh prog 5 #[v] w fun e w'=>e=.returned (H M)/\ft w w':=by
 obtain⟨A,c,rfl,ce,c0⟩:=lu hx;by_cases hb:xs.length<=1048576
 case neg=>
  have ay:=fh (show decide (1048576<(xs.length:Int))=M from QY (by omega));go_enter func5,ntmps5;go_wp2_with(go_at_call 7;refine(zwg _ _ _ _).mono ?_;rw[ay.out];rintro e w1 ⟨rfl,ap⟩);go_ret;exact⟨rfl,ap⟩
 have ay:=fh (show decide (1048576<(xs.length:Int))=I from QT (by omega));go_enter func5,ntmps5;go_upto_region 3 with(go_at_call 7;refine(zwg _ _ _ _).mono ?_;rw[ay.out];rintro e w1 ⟨rfl,ap⟩);go_upto_region 4 with(go_at_call 8;(with_reducible refine(ztc (Ty.up _ hx ap) (by omega)).mono ?_);rintro e W2 ⟨p,b,b0,b1,x,y,A2,c2,B0,d0,B1,d1,B2,d2,B3,d3,C0,f0,C1,f1,C2,f2,C3,f3,rfl,hD,hB,b3,b4,bV,aR,hP,ac,au,aT⟩);obtain⟨ag,bj,aB,bl,bi,bc⟩:=Pn hD hB b3 b4 bV aR;have bT:jP (zn p b b0 b1)<=10000000:=Cr hD.ok hD.short hD.four hB b3 b4;have aN:zI (zx (zn p b b0 b1) (1+(x:Int)) (1+(y:Int))).1<=10003603:=Rj (LA _ _ _) (by omega);generalize (zX p b (zn p b b0 b1)).1=QI at ac |-;generalize (zx (zn p b b0 b1) (1+(x:Int)) (1+(y:Int))).1=QJ at ag bj aB bl bi bc aN au |-;have e4:=QO W2 (F #[G B0 QI.fo.fq.length d0,G B1 QI.fo.fu.length d1,G B2 QI.fo.Entries.length d2,G B3 QI.fX.length d3] 31);have e5:=QO (W2.alloc (F #[G B0 QI.fo.fq.length d0,G B1 QI.fo.fu.length d1,G B2 QI.fo.Entries.length d2,G B3 QI.fX.length d3] 31)) (F #[G C0 QJ.fo.fq.length f0,G C1 QJ.fo.fu.length f1,G C2 QJ.fo.Entries.length f2,G C3 QJ.fk.length f3,J C QJ.fO,J C QJ.Left,J C QJ.Slice] 34);have e4:=zj e4 (show ft _ ((W2.alloc (F #[G B0 QI.fo.fq.length d0,G B1 QI.fo.fu.length d1,G B2 QI.fo.Entries.length d2,G B3 QI.fX.length d3] 31)).alloc (F #[G C0 QJ.fo.fq.length f0,G C1 QJ.fo.fu.length f1,G C2 QJ.fo.Entries.length f2,G C3 QJ.fk.length f3,J C QJ.fO,J C QJ.Left,J C QJ.Slice] 34)) from gG);rw[Rf] at e5;have aq:ft W2 ((W2.alloc (F #[G B0 QI.fo.fq.length d0,G B1 QI.fo.fu.length d1,G B2 QI.fo.Entries.length d2,G B3 QI.fX.length d3] 31)).alloc (F #[G C0 QJ.fo.fq.length f0,G C1 QJ.fo.fu.length f1,G C2 QJ.fo.Entries.length f2,G C3 QJ.fk.length f3,J C QJ.fO,J C QJ.Left,J C QJ.Slice] 34)):=gG;obtain⟨g4,b6⟩:∃ q,W2.heap.size=q:=⟨_,rfl⟩
 obtain⟨g5,a7⟩:∃ q,g4+1=q:=⟨_,rfl⟩
 rw[b6] at e4 e5 |-;rw[a7] at e5 |-;have au:=Ty.up _ au aq;have ac:=Ty.up _ ac aq;have hP:=Ty.up _ hP aq;have aF:=(ap.trans aT).trans aq;clear aq b6 a7 ap aT;generalize ((W2.alloc _).alloc _)=QB at e4 e5 au ac hP aF |-;have bY:=fh e4;have ao:=fh e5;have bs:=fh aF;have bX:=fh ac;have HP:=fh hP;clear e4 ac hP aF ay;obtain⟨X0,X1,X2,X3,bk,ba,bh⟩:=FA au;have bd:∀ q∈QJ.fk,q=(oy (zn p b b0 b1)).1:=fun q hq=>by rw[aB] at hq;exact TF hq
 obtain⟨cf,af⟩:=NQ ag bd (Lz _);have aC:=Nv ag 120;obtain⟨Q0,a8⟩:∃ Q0,rC QJ 120=Q0:=⟨_,rfl⟩
 have bg:Q0=jm 120 QJ []:=by rw[<-a8];unfold rC;rw[Q5 ⟨ag,rfl⟩];rfl
 have b2:=xL 120 QJ [];have be:=(GY 120 QJ []).1;have aA:=FH 120 QJ [] (fun a ha=>by cases ha);rw[<-bg] at b2 be aC aA af;have a4:=fh (zwL (x:=QJ) (limit:=120) X0 X1 X2 X3 bk ba bh ⟨by omega,by omega⟩ (by omega));rw[a8] at a4;clear a8 bg bd;obtain⟨P,a0⟩:=Q0;obtain⟨l',b9,c3,aP,aO,aa,bC⟩:=b2;simp only[RC] at b9 aa be aC aA af;subst b9;have bz:=fh aa;have bB:=fh aC;have bv:=fh aA;have a9:vV QJ=jz QJ:=by unfold vV;rw[Q5 ag]
 have az:=Gu QJ;obtain⟨TP,aZ⟩:∃ q,jz QJ=q:=⟨_,rfl⟩
 rw[aZ] at a9 az af;obtain⟨QB,tt⟩:=TP;simp only at az af;clear aZ;have bu:=fh az;have br:=fh af;have bx:=fh a9;have bW:1<=QJ.fk.length/\QJ.fk.length<=3:=by rw[aB,RJ];omega
 have c5:1<=QJ.Slice/\QJ.Slice<=12:=by omega
 clear aa aC aA af a9 az ag bj aB bl bi bc bT aP aO bC;obtain⟨ah,ai,aj,a1,ak,al,a2,am,an⟩:=zS e5;go_upto_region 5 with(go_at_call 9;(with_reducible refine a4.out.mono ?_);rintro e W3 ⟨R0,r0,R1,r1,R2,r2,R3,r3,A8,c8,S0,S1,rfl,aY,aX,_,_,_,aE⟩);have e7:=QO W3 (F #[G R0 P.fo.fq.length r0,G R1 P.fo.fu.length r1,G R2 P.fo.Entries.length r2,G R3 P.fk.length r3,J C P.fO,J C P.Left,J C P.Slice] 34);have ar:ft W3 (W3.alloc (F #[G R0 P.fo.fq.length r0,G R1 P.fo.fu.length r1,G R2 P.fo.Entries.length r2,G R3 P.fk.length r3,J C P.fO,J C P.Left,J C P.Slice] 34)):=(ft.refl _).alloc _;have aH:=Ty.up _ aY.read ar;have aG:=Ty.up _ aX.read ar;have e5:=zj (zj ao.out aE) ar;have ae:=aE.trans ar;obtain⟨g7,b7⟩:∃ q,W3.heap.size=q:=⟨_,rfl⟩
 rw[b7] at e7 |-;clear b7 aY aX ar ah ai aj a1 ak al a2 am an a4;have aW:=fh (bs.out.trans ae);have X0:=Ty.up _ X0 ae;have X1:=Ty.up _ X1 ae;have X2:=Ty.up _ X2 ae;have X3:=Ty.up _ X3 ae;clear ae aE;generalize (W3.alloc _)=QH at e7 e5 aH aG aW X0 X1 X2 X3 |-;obtain⟨P0,P1,P2,P3,bS,bQ,bR⟩:=FA aH;have bq:=fh e7;have ao:=fh e5;have aD:=fh aG;clear e5 e7 aH aG P0 P1 P2 bS bQ bR;go_wp2_with(fail);go_loopw [8,9] (fun z8 z9 wr=>∃(k:Nat) (wt:Int),z8=J C wt/\z9=J C (k:Int)/\k<=a0.length/\(0<=wt/\wt<=k)/\Hid (qZ QJ.Slice QJ.fk.length (rZ P.fk) (a0.drop k) wt=M)/\Hid (ft QH wr)) (fun _ z _=>a0.length-(Ry z).toNat)
 case atStart=>exact⟨0,0,rfl,rfl,QX _,⟨SK _,SK _⟩,bB,fh (ft.refl _)⟩
 obtain⟨k,wt,rfl,rfl,hk,cc,HWT,HGr⟩:=hrel;obtain⟨k1,aK⟩:∃ k1,k+1=k1:=⟨_,rfl⟩
 have ca:QP C ((k:Int)+1)=(k1:Int):=by rw[<-aK];exact iw
 by_cases hkl:k1<a0.length
 ·have aL:(k1:Int)<(a0.length:Int):=by omega
  have c1:k<a0.length:=by omega
  have bL:(k:Int)<(a0.length:Int):=by omega
  obtain⟨gl,ol,a,bD,aI,a3,_⟩:=lI (Ty.up _ aD.out HGr.out) (k:=k) (by omega);obtain⟨bZ,cg,b',a5,b5,bG,_⟩:=lI (Ty.up _ aD.out HGr.out) (k:=k1) hkl;have bF:=bv.out a (Q9 aI);have ab:=Ob HWT.out aI (by rw[aK];exact b5);rw[aK] at ab;have HWT:=fh ab;subst bD;injection a5 with a5
  injection a5 with e1 e2
  subst e1 e2;have hnw:0<=(if a=b' then wt+1 else 0)/\(if a=b' then wt+1 else 0)<=(k1:Int):=by split <;> omega
  obtain⟨i,bK⟩:∃ i:Nat,(a+1).tmod (QJ.fk.length:Int)=(i:Int):=⟨_,(Int.toNat_of_nonneg (Int.tmod_nonneg _ (by omega))).symm⟩
  have aJ:i<QJ.fk.length:=by have h1:=Int.tmod_lt_of_pos (a+1) (show (0:Int)<(QJ.fk.length:Int) by omega);omega
  have bU:QP C (a+1)=a+1:=iw;have bP:¬ QJ.fk = []:=fun h=>by rw[h] at aJ;cases aJ
  have bN:¬ ((QJ.fk.length:Int)=0):=by omega
  have bO:((QJ.fk.length:Int) == 0)=I:=QV.2 bN;have c7:QP C (i:Int)=(i:Int):=iw;have bI:i<P.fk.length:=by rw[bz.out];exact aJ
  have bJ:(i:Int)<(P.fk.length:Int):=by omega
  obtain⟨gn,on,q,G3,l3,G4,l4,bE,bH,bf,q0,q1,q2,q3,q4,q5,q6,_⟩:=yZ (Ty.up _ P3 HGr.out) (k:=i) bI;have bw:=fh (show rZ P.fk (i:Int)=decide (q.State=0) by unfold rZ;rw[Ra,bf]);have bt:=fh bK;subst bE;obtain⟨ah,ai,aj,a1,ak,al,a2,am,an⟩:=zS (zj ao.out HGr.out);obtain⟨y0,y1,y2,y3,y4,y5,y6,_,_⟩:=zS (zj bq.out HGr.out);clear ab aI b5 bH bf q0 q1 q2 q3 q4 q6 ah ai aj ak al am an y0 y1 y2 y4 y5 y6;have aw:∀ nw:Int,(if a=b' then wt+1 else 0)=nw->(a=b'->QP C (wt+1)=nw)/\(¬ a=b'->nw=0):=fun nw h=>⟨fun h1=>by rw[Q5 h1] at h;rw[<-h];exact iw,fun h1=>by rw[QZ h1] at h;exact h.symm⟩;obtain⟨nw,aM⟩:∃ nw,(if a=b' then wt+1 else 0)=nw:=⟨_,rfl⟩
  have ax:=aw nw aM;rw[aM] at HWT hnw;clear aw aM;go_upto_region 9 with(fail);go_cut [41] from 32 to 41 (fun v wx=>v=H (a == b')/\Hid (ft wr wx))
  case first=>
   go_wp2_with(fail);go_quiet (fail);go_wp2_with(fail);go_meet;exact⟨rfl,fh gG⟩
  obtain⟨rfl,HGx⟩:=hcut;go_upto_if 41 with(fail)
  go_cut [8] from 41 to 44 (fun v wx=>v=J C nw/\wc=wx)
  case first=>
   by_cases nJ:a=b'
   ·have a6:(a == b')=M:=Rt.2 nJ
    have cd:=ax.1 nJ;rw[a6];clear nJ ax;go_wp2_with(fail);go_meet;exact⟨rfl,rfl⟩
   ·have a6:(a == b')=I:=QV.2 nJ
    obtain rfl:=ax.2 nJ;rw[a6];clear nJ ax;go_wp2_with(fail);go_meet;exact⟨rfl,rfl⟩
  obtain⟨rfl,rfl⟩:=hcut;have a2:=za HGx.out a2;have a1:=za HGx.out a1;have y3:=za HGx.out y3;have a3:=za HGx.out a3;have q5:=za HGx.out q5;clear bG ax;by_cases hge:nw≥QJ.Slice
  ·by_cases hst:q.State=0
   ·have aQ:(q.State == 0)=M:=by rw[hst];rfl
    have c4:¬ ((QJ.fk.length:Int) > 1):=(HWT.out.1 hge (by rw[bt.out];exact bw.out.trans (QY hst)))
    have av:QJ.Slice<=nw:=hge;go_upto_region 12 with(fail);refine jT (fun w'=>QL w' ⟨g5,6,D⟩=Z (J C QJ.Slice)/\QL w' ⟨g5,3,D⟩=Z (G C3 QJ.fk.length f3)/\QL w' ⟨g7,3,D⟩=Z (G (Z ⟨gn,on,D⟩) P.fk.length r3)/\QL w' ⟨gl,ol+k,D⟩=Z (J C a)/\QL w' ⟨gn,on+i*7+5,D⟩=Z (J C q.State)) 26 (by kernel_rfl) (QQ (zc a2) (QQ (zc a1) (QQ (zc y3) (QQ (zc a3) (zc q5))))) (fun hH=>?_);have hdr:ft wc wc.drew:=(ft.refl _).drew;clear a2 a1 y3 a3 q5;generalize wc.drew=wx at hdr hH |-;obtain⟨a2,a1,y3,a3,q5⟩:=id hH;refine .tk 0 [3,4,21,26] hH ?_;refine .tk 1 [2,3,4,21,26] hH ?_;refine .tk 2 [3,4,21,26] hH ?_;refine .tk 3 [4,21,26] hH ?_;refine .tk 4 [21,26] hH ?_;refine .tk 5 [6,16,17,18,19,20,21,26] hH ?_;refine .tk 6 [16,17,18,19,20,21,26] hH ?_;refine .tk 7 [9,10,11,15,16,17,18,19,20,21,26] hH ?_;refine .tk 8 [9,10,11,15,16,17,18,19,20,21,26] hH ?_;refine .tk 9 [10,11,15,16,17,18,19,20,21,26] hH ?_;refine .tk 10 [11,15,16,17,18,19,20,21,26] hH ?_;refine .tk 11 [15,16,17,18,19,20,21,26] hH ?_;refine .tk 12 [13,14,15,16,17,18,19,20,21,26] hH ?_;refine .tk 13 [14,15,16,17,18,19,20,21,26] hH ?_;refine .tk 14 [15,16,17,18,19,20,21,26] hH ?_;refine .tk 15 [16,17,18,19,20,21,26] hH ?_;refine .tk 16 [17,18,19,20,21,26] hH ?_;refine .tk 17 [18,19,20,21,26] hH ?_;refine .tk 18 [19,20,21,26] hH ?_;refine .tk 19 [20,21,26] hH ?_;refine .tk 20 [21,26] hH ?_;refine .tk 21 [26] hH ?_;refine .tk 22 [23,24,25,26] hH ?_;refine .tk 23 [24,25,26] hH ?_;refine .tk 24 [25,26] hH ?_;refine .tk 25 [26] hH ?_;exact zzm30
   ·have aQ:(q.State == 0)=I:=QV.2 hst
    have av:QJ.Slice<=nw:=hge;go_upto_region 12 with(fail);refine jT (fun w'=>QL w' ⟨g5,6,D⟩=Z (J C QJ.Slice)/\QL w' ⟨g5,3,D⟩=Z (G C3 QJ.fk.length f3)/\QL w' ⟨g7,3,D⟩=Z (G (Z ⟨gn,on,D⟩) P.fk.length r3)/\QL w' ⟨gl,ol+k,D⟩=Z (J C a)/\QL w' ⟨gn,on+i*7+5,D⟩=Z (J C q.State)) 26 (by kernel_rfl) (QQ (zc a2) (QQ (zc a1) (QQ (zc y3) (QQ (zc a3) (zc q5))))) (fun hH=>?_);have hdr:ft wc wc.drew:=(ft.refl _).drew;clear a2 a1 y3 a3 q5;generalize wc.drew=wx at hdr hH |-;obtain⟨a2,a1,y3,a3,q5⟩:=id hH;refine .tk 0 [3,4,21,26] hH ?_;refine .tk 1 [2,3,4,21,26] hH ?_;refine .tk 2 [3,4,21,26] hH ?_;refine .tk 3 [4,21,26] hH ?_;refine .tk 4 [21,26] hH ?_;refine .tk 5 [6,16,17,18,19,20,21,26] hH ?_;refine .tk 6 [16,17,18,19,20,21,26] hH ?_;refine .tk 7 [9,10,11,15,16,17,18,19,20,21,26] hH ?_;refine .tk 8 [9,10,11,15,16,17,18,19,20,21,26] hH ?_;refine .tk 9 [10,11,15,16,17,18,19,20,21,26] hH ?_;refine .tk 10 [11,15,16,17,18,19,20,21,26] hH ?_;refine .tk 11 [15,16,17,18,19,20,21,26] hH ?_;refine .tk 12 [13,14,15,16,17,18,19,20,21,26] hH ?_;refine .tk 13 [14,15,16,17,18,19,20,21,26] hH ?_;refine .tk 14 [15,16,17,18,19,20,21,26] hH ?_;refine .tk 15 [16,17,18,19,20,21,26] hH ?_;refine .tk 16 [17,18,19,20,21,26] hH ?_;refine .tk 17 [18,19,20,21,26] hH ?_;refine .tk 18 [19,20,21,26] hH ?_;refine .tk 19 [20,21,26] hH ?_;refine .tk 20 [21,26] hH ?_;refine .tk 21 [26] hH ?_;refine .sk 22 [23,24,25,26] hH ?_;refine .sk 23 [24,25,26] hH ?_;refine .sk 24 [25,26] hH ?_;refine .sk 25 [26] hH ?_;exact zzm30
  ·have av:¬ QJ.Slice<=nw:=hge
   go_upto_region 12 with(fail);refine jT (fun w'=>QL w' ⟨g5,6,D⟩=Z (J C QJ.Slice)/\QL w' ⟨g5,3,D⟩=Z (G C3 QJ.fk.length f3)/\QL w' ⟨g7,3,D⟩=Z (G (Z ⟨gn,on,D⟩) P.fk.length r3)/\QL w' ⟨gl,ol+k,D⟩=Z (J C a)/\QL w' ⟨gn,on+i*7+5,D⟩=Z (J C q.State)) 26 (by kernel_rfl) (QQ (zc a2) (QQ (zc a1) (QQ (zc y3) (QQ (zc a3) (zc q5))))) (fun hH=>?_);have hdr:ft wc wc.drew:=(ft.refl _).drew;clear a2 a1 y3 a3 q5;generalize wc.drew=wx at hdr hH |-;obtain⟨a2,a1,y3,a3,q5⟩:=id hH;refine .tk 0 [3,4,21,26] hH ?_;refine .tk 1 [2,3,4,21,26] hH ?_;refine .tk 2 [3,4,21,26] hH ?_;refine .tk 3 [4,21,26] hH ?_;refine .tk 4 [21,26] hH ?_;refine .sk 5 [6,16,17,18,19,20,21,26] hH ?_;refine .sk 6 [16,17,18,19,20,21,26] hH ?_;refine .sk 7 [9,10,11,15,16,17,18,19,20,21,26] hH ?_;refine .sk 8 [9,10,11,15,16,17,18,19,20,21,26] hH ?_;refine .sk 9 [10,11,15,16,17,18,19,20,21,26] hH ?_;refine .sk 10 [11,15,16,17,18,19,20,21,26] hH ?_;refine .sk 11 [15,16,17,18,19,20,21,26] hH ?_;refine .sk 12 [13,14,15,16,17,18,19,20,21,26] hH ?_;refine .sk 13 [14,15,16,17,18,19,20,21,26] hH ?_;refine .sk 14 [15,16,17,18,19,20,21,26] hH ?_;refine .sk 15 [16,17,18,19,20,21,26] hH ?_;refine .sk 16 [17,18,19,20,21,26] hH ?_;refine .sk 17 [18,19,20,21,26] hH ?_;refine .sk 18 [19,20,21,26] hH ?_;refine .sk 19 [20,21,26] hH ?_;refine .tk 20 [21,26] hH ?_;refine .tk 21 [26] hH ?_;refine .sk 22 [23,24,25,26] hH ?_;refine .sk 23 [24,25,26] hH ?_;refine .sk 24 [25,26] hH ?_;refine .sk 25 [26] hH ?_;exact zzm30
 ·have aL:¬ ((k1:Int)<(a0.length:Int)):=by omega
  have ad:=HGr.out;obtain⟨ah,ai,aj,a1,ak,al,a2,am,an⟩:=zS (zj ao.out ad);have aS:=fh (zv0 (x:=QJ) (Ty.up _ X0 ad) (Ty.up _ X1 ad) (Ty.up _ X2 ad) (Ty.up _ X3 ad) bk ba bh (by omega));rw[bx.out] at aS;have bA:=fh (show ((QB.fk.length:Int) == (QJ.fk.length:Int))=M by rw[bu.out];exact beq_self_eq_true _);go_upto_region 15 with(go_at_call 24;(with_reducible refine aS.out.mono ?_);rintro e W5 ⟨K0,bm,K1,bn,K2,bo,K3,bp,rfl,_,aU⟩);have e9:=QO W5 (F #[G K0 QB.fo.fq.length bm,G K1 QB.fo.fu.length bn,G K2 QB.fo.Entries.length bo,G K3 QB.fk.length bp,J C QB.fO,J C QB.Left,J C QB.Slice] 34);have aV:ft W5 (W5.alloc (F #[G K0 QB.fo.fq.length bm,G K1 QB.fo.fu.length bn,G K2 QB.fo.Entries.length bo,G K3 QB.fk.length bp,J C QB.fO,J C QB.Left,J C QB.Slice] 34)):=(ft.refl _).alloc _;have a7:=(ad.trans aU).trans aV;obtain⟨g9,b8⟩:∃ q,W5.heap.size=q:=⟨_,rfl⟩
  rw[b8] at e9 |-;clear b8 ah ai aj a1 ak al a2 am an aV aU;generalize (W5.alloc _)=V9 at e9 a7 |-;obtain⟨z0,z1,z2,z3,z4,z5,z6,_,_⟩:=zS e9;obtain⟨ah,ai,aj,a1,ak,al,a2,am,an⟩:=zS (zj ao.out a7);have bb:(a0.length:Int)<=120:=by omega
  have c6:=bA.out;have bM:=Ty.up _ aD.out a7;go_wp2_with(go_at_call 25;(with_reducible refine(zw5 bM br.out (by omega)).mono ?_);rintro e w1 ⟨rfl,rfl⟩);go_ret;exact⟨rfl,aW.out.trans a7⟩
theorem lifted (os:Os)(started:os.Started)(QG:Type)(enc:TypeId × Value->QG) :
  ReturnsInHanded {} Tryz.checked os 5 .any (Rows.fnSlicesSpec.pre6 enc prog f5 Rows.fnSlicesRow.domain I) (Rows.fnSlicesSpec.post enc prog f5 I M I I):=by
 refine returnsInHanded_of_change (C:=Tryz.checked) own started (by kernel_rfl) func5
  (ChangeSpec.witness6 (enc:=enc) (C:=Tryz.checked) I ⟨#[],#[G D 0 0],[]⟩ 8 (by kernel_rfl) (by kernel_rfl) (by kernel_rfl) (by kernel_rfl)) ?_
 intro W base a1 ds gs a4 a2 hW a9 _;have a3:∀(j:Nat) t v,f5.params[j]?=Z t->a1[j]?=Z v->Value.okWide prog W .any base t v:=a2;have a8:=hW;obtain⟨p,q,a6,hV,rfl,ac,ad⟩:=hW;have hA:DataW.TrodAll enc prog W 0 (fun _=>M) M f5.params.toList a1.toList ds p:=a6;rw[Tryz.params5] at hA a3;obtain⟨v0,ae,d0,ab,p0,q0,a7,rfl,rfl,h0,r0⟩:=trodAll_cons hA;obtain⟨rfl,rfl,rfl⟩:=trodAll_nil r0;obtain rfl:a1=#[v0]:=by cases a1;simp_all
 obtain⟨rfl,rfl⟩:=trodVars_none hV;have k0:=h0;have aa:∀ x∈p0,x.block<W.heap.size:=by obtain⟨m,hm⟩:=k0;exact DataW.trod_lt m _ _ _ hm
 obtain⟨a0,w0⟩:=NG (ON (e':=5) underlying22 (by kernel_rfl) (by decide) (LH underlying5)) h0;rw[Mc underlying22 (a3 0 22 v0 rfl rfl)] at w0;clear a6 a2;refine(walk W v0 a0 w0).mono fun e W' ⟨he,hgro⟩=>?_;subst he;have a5:=hgro.below;exact⟨_,rfl,_,_,_,[],_,[],a8,trodAll_mk1 (shut_bool underlying4 _),(trodAll_cons_mk (Below.trod laidOut (by kernel_rfl) (Tl (by kernel_rfl)) k0 a5 aa) trodAll_mk0),rfl,a5.frame _,fun h=>by cases h⟩
theorem over:Rows.fnSlicesRow.holds Tryz.pinned (OpenSpec.ofChange Rows.fnSlicesSpec):=
 OpenClaim.holds_of_wide 5 f5 rfl rfl rfl rfl rfl rfl rfl ⟨rfl,rfl,rfl,rfl,rfl⟩ rfl rfl rfl rfl rfl (by kernel_rfl) func5 (by kernel_rfl)
  (Tl (by kernel_rfl)) (by unfold Func.isWrapper;first | (rw[Q5 (by decide +kernel)];kernel_rfl) | (rw[QZ (by decide +kernel)];exact⟨rfl,rfl⟩))
  (fun os started QG enc _=>lifted os started QG enc)
theorem proved:Rows.FnSlicesSaid:=over
#print axioms proved
end Go.Proofs.YthgbglbaemelhaaGreat.fnSlices
