/-
  PART.
-/
import Derived.Test.YthgbglbaemelhaaGreatM8LawRecords
import Derived.Test.YthgbglbaemelhaaGreatM13LawRecords
import Derived.Test.YthgbglbaemelhaaGreatM14LawRecords
set_option linter.unusedVariables false
set_option linter.unusedSimpArgs false
set_option maxRecDepth 100000
set_option maxHeartbeats 8000000
namespace Go.Proofs.YthgbglbaemelhaaGreat
open Value renaming slice->J,int->C,bool->X,string->Q
open IntKind renaming i64->Z,wrap->Vl
open Option renaming none->I,some->F
open Obj renaming cells->U
open Bool renaming false->M,true->H
open Go renaming World->V,results->VF,Calls->VK,Addr->VQ,TypeId->Wl,yielded->Xb,Ending->Z9
open World renaming cell?->Vg,alloc->WJ
open List renaming length_cons->VC,getElem?_cons_zero->VU,length_nil->VZ,nil_append->Wo,getElem?_cons_succ->Ww,sum_cons->Xz,set_cons_zero->Zt,set_cons_succ->Zu
open Region renaming wanted->V6,ready->Wv,noSelect->XV,Mode->XY,free->YI
open RowKit renaming intOf->Wj
open _root_.Nat renaming add_zero->Wk
open Tryz
open Go.RowKit
variable {A A0 A1 A2 A3 A4 A5 AE:N VQ}{B a c c0 c1 c2 c3 c4 c5 cE g k l n nE pos z0 z1:Nat}{P:Program}{S S4 S5 SE:D Nat}{Va W Y w w':V}{b:gP}{b0 b1 base id:Int}{es:D Int}{i i0 i1:ii}{nm s:G}{o:Oper}{p:D fB}{jR:D fR}{x:iB}
def jP (p:iB × Bool)(w:V)(e:Z9)(w':V):Prop:=∃ A0 c0 A1 c1 A2 c2 A3 c3,e=.returned (.tuple #[.agg #[C Z p.1.Id,J A0 p.1.fq.length c0,J A1 p.1.gY.length c1,J A2 p.1.gz.length c2,J A3 p.1.gk.length c3],X p.2])/\
 gH og w w' [C Z p.1.Id,J A0 p.1.fq.length c0,J A1 p.1.gY.length c1,J A2 p.1.gz.length c2,J A3 p.1.gk.length c3] p.1/\fy w w'
theorem jP.no {p:iB × Bool} (h:p=(yH,M))(hg:fy w w'):jP p w (.returned (.tuple #[.agg #[C Z 0,J I 0 0,J I 0 0,J I 0 0,J I 0 0],X M])) w':=by
 subst h;exact⟨I,0,I,0,I,0,I,0,rfl,Iq _ _,hg⟩
def uB (s:G)(id:Int)(n pos:Nat):N iB:=match nS s n pos [] with
 | some (jR,a)=>match po s 3 a [] with
  | some (ps,_)=>LJ id jR ps
  | none=>I
 | none=>I
theorem UG {id:Nat} (h0:iN s 0=(id,z0,H))(h1:iN s (z0:Int)=(n,z1,H)):Cb s=uB s id n (z0+z1):=by
 unfold Cb;rw[h0];simp only;rw[h1];simp only[and_self,Xe];rfl
theorem Hf (h:Cb s=I):sK s=(yH,M):=by unfold sK;rw[h]
theorem Ow {id:Nat} {ok0 ok1:Bool} (h0:iN s 0=(id,z0,ok0))(h1:iN s (z0:Int)=(n,z1,ok1))(h:¬ (ok0=H/\ok1=H)):sK s=(yH,M):=by
 refine Hf ?_;unfold Cb;rw[h0];simp only;rw[h1];exact Vo h
theorem QN (h:nS s n pos []=I):uB s id n pos=I:=by unfold uB;rw[h]
theorem QO (h:nS s n pos []=F (jR,a))(h2:po s 3 a []=I):uB s id n pos=I:=by unfold uB;rw[h];simp only;rw[h2]
theorem QP {b:Nat} {p0 p1 p2:G} (h:nS s n pos []=F (jR,a))(h2:po s 3 a []=F ([p0,p1,p2],b)):uB s id n pos=if (qD p0).2=H/\(qK p1).2=H/\(ph p2).2=H then F ⟨id,jR,(qD p0).1,(qK p1).1,(ph p2).1⟩ else I:=by
 unfold uB;rw[h];simp only;rw[h2];rfl
theorem TD {α:Type} {l:D α} (h:l.length=3):∃ x y z,l = [x,y,z]:=by
 match l,h with
 | [x,y,z],_=>exact⟨_,_,_,rfl⟩
theorem Tr {e:Wl} {xs:D G} (h:(jB.sl e).R w B [J A n c] xs)(h0:0<xs.length):∃ g off,A=F ⟨g,off,I⟩/\g<B/\∀(i:Nat)(x:G),xs[i]?=F x->Vg w ⟨g,off+i,I⟩=F (Q x):=by
 obtain⟨A',c',h1,_,_,_,h5⟩:=h;injection h1 with h1 _
 injection h1 with hA _ _
 subst hA;obtain⟨g,off,rfl,hg,h6⟩:=h5 h0;refine⟨g,off,rfl,hg,fun i x hx=>?_⟩;obtain⟨ec,hR,hc⟩:=h6 i x hx;obtain⟨rfl,h7⟩:=hR;have:=hc 0 _ rfl;simpa only[show jB.size=1 from rfl,Xo,Wk] using this
theorem Ke {sy:D fR} {ru:D iF} {ro:D jk} {il:D gL} (h0:(kr.sl 137).R w w.heap.size [J A0 sy.length c0] sy)(h1:(mh.sl 205).R w w.heap.size [J A1 ru.length c1] ru)
  (h2:(nk.sl 216).R w w.heap.size [J A2 ro.length c2] ro) (h3:(mc.sl 214).R w w.heap.size [J A3 il.length c3] il) (hi:fQ id) (hb:sS ⟨id,sy,ru,ro,il⟩) :
  VK prog 74 #[.agg #[C Z id,J A0 sy.length c0,J A1 ru.length c1,J A2 ro.length c2,J A3 il.length c3]] w fun e w'=>e=.returned (Q (oM ⟨id,sy,ru,ro,il⟩))/\fy w w':=zqD (d:=⟨id,sy,ru,ro,il⟩) h0 h1 h2 h3 hi hb
theorem yU {g:Prop} (f:g:=by
  go_wp2_with(first
   | (go_at_call 109;refine(zgB s (pos:Int) _ hs2 hpI).mono ?_;rw[HU1.out];rintro e v3 ⟨rfl,hG3⟩)
   | (go_at_call 110;refine(zdN s ((pos:Int)+(m:Int)) _ hs2 hpmI).mono ?_;rw[HU2.out];rintro e v4 ⟨A6,c6,rfl,hF4,hG4⟩;have hG34:fy wr v4:=(fy.trans gF hG3).trans (fy.trans gF hG4);have r2:=zj r2 hG34;have r4:=zj r4 hG34;have hbx:=zj hbx hG34;obtain⟨a0,a1,a2,a3,a4,af,al⟩:=jO r2;obtain⟨b0,b1,b2,b3,b4,bf,bl⟩:=jO r4;obtain⟨x0,x1,x2,x3,x4,xf,xl⟩:=jO hbx))
  have hs5:=uF r2 (C Z 0) (J I 0 0) (J I 0 0) (J I 0 0) (J I 0 0)
  obtain⟨q0,q1,q2,q3,q4,_,_⟩:=jO hs5.1
  exact Vr (v:=.tuple #[.agg #[C Z 0,J I 0 0,J I 0 0,J I 0 0,J I 0 0],X M]) (by simp[VF,results73,go_sem,q0,q1,q2,q3,q4]) rfl (jP.no (HB.out) (hs5.2.fH (hG.out.trans hG34) (by simp only[Vi];rintro b rfl;exact hw2)))):g:=f
theorem tY {g:Prop} (f:g:=by
  have hs5:=uF r2 (C Z 0) (J I 0 0) (J I 0 0) (J I 0 0) (J I 0 0)
  obtain⟨q0,q1,q2,q3,q4,_,_⟩:=jO hs5.1
  exact Vr (v:=.tuple #[.agg #[C Z 0,J I 0 0,J I 0 0,J I 0 0,J I 0 0],X M]) (by simp[VF,results73,go_sem,q0,q1,q2,q3,q4]) rfl (jP.no (HB.out) (hs5.2.fH (hGV) (by simp only[Vi];rintro b rfl;exact hw2)))):g:=f
theorem zqt (s:G)(w:V)(hs:s.size<=4194304):VK prog 73 #[Q s] w (jP (sK s) w):=by
 have hs2:s.size<=1099511627776:=fh;have b5:fQ 0:=⟨fh,fh⟩
 obtain⟨id,z0,aU,ak⟩:∃ n z ok,iN s 0=(n,z,ok):=⟨_,_,_,rfl⟩
 have cu:z0<=s.size:=by
  cases aU
  ·have:=(te ak).2;omega
  ·have:=pa ak;omega
 have aC:fQ (z0:Int):=⟨fh,fh⟩
 obtain⟨n,z1,aV,am⟩:∃ n z ok,iN s (z0:Int)=(n,z,ok):=⟨_,_,_,rfl⟩
 have bA:z0+z1<=s.size:=by
  cases aV
  ·have:=(te am).2;omega
  ·have:=pa am;omega
 have bW:id<=1099511627775:=by
  cases aU
  ·have:=(te ak).1;omega
  ·exact(pa ak).2.2.2.2
 have cp:n<=1099511627775:=by
  cases aV
  ·have:=(te am).1;omega
  ·exact(pa am).2.2.2.2
 have aX:=fk ak;have aY:=fk am;have cc:Vl Z ((z0:Int)+(z1:Int))=(z0:Int)+(z1:Int):=iw;go_enter func73,ntmps73;go_upto_region 2 with(fail);have r2:=zj (Vj w (U #[C Z 0,J I 0 0,J I 0 0,J I 0 0,J I 0 0] 108)) (show fy _ ((w.alloc (U #[C Z 0,J I 0 0,J I 0 0,J I 0 0,J I 0 0] 108)).alloc (U #[C Z 0,J I 0 0,J I 0 0,J I 0 0,J I 0 0] 108)) from gG);have r4:=Vj (w.alloc (U #[C Z 0,J I 0 0,J I 0 0,J I 0 0,J I 0 0] 108)) (U #[C Z 0,J I 0 0,J I 0 0,J I 0 0,J I 0 0] 108);have aT:fy w ((w.alloc (U #[C Z 0,J I 0 0,J I 0 0,J I 0 0,J I 0 0] 108)).alloc (U #[C Z 0,J I 0 0,J I 0 0,J I 0 0,J I 0 0] 108)):=gG;rw[VH] at r4;obtain⟨g2,bb⟩:∃ g,w.heap.size=g:=⟨_,rfl⟩
 have hw2:w.heap.size<=g2:=fh;rw[bb] at r2 r4 |-;have ck:=fk bb;clear bb;generalize ((w.alloc _).alloc _)=Y at r2 r4 aT |-;obtain⟨g4,bv⟩:∃ g,g2+1=g:=⟨_,rfl⟩
 rw[bv] at r4 |-;have cl:g2<g4:=fh;clear bv;by_cases hgood:aU=H/\aV=H
 case neg=>
  have HN:=fk (Ow ak am hgood);clear ak am;cases aU
  ·go_wp2_with(first
    | (go_at_call 108;(with_reducible refine(zd1 s 0 _ hs2 b5).mono ?_);rw[aX.out];rintro e v1 ⟨rfl,aF⟩)
    | (go_at_call 108;(with_reducible refine(zd1 s (z0:Int) _ hs2 aC).mono ?_);rw[aY.out];rintro e v2 ⟨rfl,aG⟩;have a6:=aF.trans (fy.trans (gF:fy v1 _) aG);have r2:=zj r2 a6;have r4:=zj r4 a6;obtain⟨a0,a1,a2,a3,a4,af,al⟩:=jO r2;obtain⟨b0,b1,b2,b3,b4,bf,bl⟩:=jO r4))
   have hs5:=uF r2 (C Z 0) (J I 0 0) (J I 0 0) (J I 0 0) (J I 0 0)
   obtain⟨q0,q1,q2,q3,q4,_,_⟩:=jO hs5.1
   exact Vr (v:=.tuple #[.agg #[C Z 0,J I 0 0,J I 0 0,J I 0 0,J I 0 0],X M]) (by simp[VF,results73,go_sem,q0,q1,q2,q3,q4]) rfl (jP.no (HN.out) (hs5.2.fH (aT.trans a6) (by simp only[Vi];rintro b rfl;exact hw2)))
  ·cases aV
   ·go_wp2_with(first
     | (go_at_call 108;(with_reducible refine(zd1 s 0 _ hs2 b5).mono ?_);rw[aX.out];rintro e v1 ⟨rfl,aF⟩)
     | (go_at_call 108;(with_reducible refine(zd1 s (z0:Int) _ hs2 aC).mono ?_);rw[aY.out];rintro e v2 ⟨rfl,aG⟩;have a6:=aF.trans (fy.trans (gF:fy v1 _) aG);have r2:=zj r2 a6;have r4:=zj r4 a6;obtain⟨a0,a1,a2,a3,a4,af,al⟩:=jO r2;obtain⟨b0,b1,b2,b3,b4,bf,bl⟩:=jO r4))
    have hs5:=uF r2 (C Z 0) (J I 0 0) (J I 0 0) (J I 0 0) (J I 0 0)
    obtain⟨q0,q1,q2,q3,q4,_,_⟩:=jO hs5.1
    exact Vr (v:=.tuple #[.agg #[C Z 0,J I 0 0,J I 0 0,J I 0 0,J I 0 0],X M]) (by simp[VF,results73,go_sem,q0,q1,q2,q3,q4]) rfl (jP.no (HN.out) (hs5.2.fH (aT.trans a6) (by simp only[Vi];rintro b rfl;exact hw2)))
   ·exact absurd ⟨rfl,rfl⟩ hgood
 obtain⟨rfl,rfl⟩:=hgood;have aB:=UG ak am;have HN:=fk (fun(h:uB s id n (z0+z1)=I)=>Hf (aB.trans h));have HY:=fk (fun(d:iB) (h:uB s id n (z0+z1)=F d)=>(show sK s=if oM d=s then (d,H) else (yH,M) from by unfold sK;rw[aB.trans h]));clear ak am aB
 go_wp2_with(first
  | (go_at_call 108;(with_reducible refine(zd1 s 0 _ hs2 b5).mono ?_);rw[aX.out];rintro e v1 ⟨rfl,aF⟩)
  | (go_at_call 108;(with_reducible refine(zd1 s (z0:Int) _ hs2 aC).mono ?_);rw[aY.out];rintro e v2 ⟨rfl,aG⟩;have a6:=aF.trans (fy.trans (gF:fy v1 _) aG);have r2:=zj r2 a6;have r4:=zj r4 a6;obtain⟨a0,a1,a2,a3,a4,af,al⟩:=jO r2;obtain⟨b0,b1,b2,b3,b4,bf,bl⟩:=jO r4))
 have eD:=Vj v2 (U #[C Z (id:Int),J I 0 0,J I 0 0,J I 0 0,J I 0 0] 108);have be:fy v2 (v2.alloc (U #[C Z (id:Int),J I 0 0,J I 0 0,J I 0 0,J I 0 0] 108)):=gG;have bg:g4<v2.heap.size:=bl;obtain⟨gd,bw⟩:∃ g,v2.heap.size=g:=⟨_,rfl⟩
 rw[bw] at eD bg |-;clear bw;have r2:=zj r2 be;have r4:=zj r4 be;have az:=(aT.trans a6).trans be;generalize (v2.alloc _)=Y1 at eD r2 r4 az |-;clear a0 a1 a2 a3 a4 af al b0 b1 b2 b3 b4 bf bl;go_loopw [6,12] (fun p q wr=>∃(k pos:Nat) (a5:D fR) (A5:N VQ) (c5:Nat) (S:D Nat),p=C Z (pos:Int)/\q=C Z (k:Int)/\k<=n/\pos<=s.size/\a5.length<=pos/\Hid (nS s (n-k) pos a5=nS s n (z0+z1) [])/\Hid (fy w wr)/\wr.heap[g2]?=F (U #[C Z 0,J I 0 0,J I 0 0,J I 0 0,J I 0 0] 108 (0,0))/\wr.heap[g4]?=F (U #[C Z 0,J I 0 0,J I 0 0,J I 0 0,J I 0 0] 108 (0,0))/\wr.heap[gd]?=F (U #[C Z (id:Int),J A5 a5.length c5,J I 0 0,J I 0 0,J I 0 0] 108 (0,0))/\Hid (Has (kr.sl 137) wr [J A5 a5.length c5] a5 S)/\Hid (∀ b∈S,gd<b)) (fun _ q _=>n-(Wj q).toNat)
 case atStart=>exact⟨0,z0+z1,[],I,0,[],io,rfl,Vu _,bA,Vu _,fk rfl,fk az,r2,r4,eD,fk (Has.nil kr 137 Y1),fk (fun b hb=>by cases hb)⟩
 clear eD r2 r4 az;obtain⟨k,pos,a5,A5,c5,S,rfl,rfl,hk,aM,cm,HT,hG,r2,r4,hbx,hH,hS⟩:=hrel;by_cases hlt:k<n
 ·have bX:(k:Int)<(n:Int):=fh
  obtain⟨r,hr⟩:∃ r,n-k=r+1:=⟨n-k-1,fh⟩
  have hT:=HT.out;rw[hr] at hT;have hpI:fQ (pos:Int):=⟨fh,fh⟩
  obtain⟨t,m,aD,a8⟩:∃ t m ok,lk s (pos:Int)=(t,m,ok):=⟨_,_,_,rfl⟩
  have bZ:pos+m<=s.size/\t.size<=s.size:=by
   cases aD
   ·obtain⟨e1,e2⟩:=LH a8;subst e1;exact⟨fh,Vu _⟩
   ·have:=vU a8;omega
  have c0:Vl Z ((pos:Int)+(m:Int))=(pos:Int)+(m:Int):=iw;have hpmI:fQ ((pos:Int)+(m:Int)):=⟨fh,fh⟩
  obtain⟨l,q2,aE,au⟩:∃ l q ok,iX s (pos+m:Nat)=(l,q,ok):=⟨_,_,_,rfl⟩
  have c4:pos+m+q2<=s.size:=by
   cases aE
   ·have:=(Dy au).2;omega
   ·exact(vT au).2.1
  have HU1:=fk a8;have HU2:Hid (iX s ((pos:Int)+(m:Int))=(l,q2,aE)):=fk (by rw[<-au];congr 1);have cd:Vl Z ((k:Int)+1)=(k:Int)+1:=iw;have cs:Vl Z ((pos:Int)+(m:Int)+(q2:Int))=(pos:Int)+(m:Int)+(q2:Int):=iw;by_cases hgood:aD=H/\aE=H/\l.length=2
  case neg=>
   have aq:nS s (r+1) pos a5=I:=by
    cases aD
    ·exact I4 a8
    ·cases aE
     ·exact I5 a8 au
     ·exact I6 a8 au (fun h=>hgood ⟨rfl,rfl,h⟩)
   have HB:=fk (HN.out (QN (by rw[<-hT];exact aq)))
   have aL:aD=H->aE=H->((l.length:Int) != 2)=H:=fun h1 h2=>by
    simp only[bne_iff_ne];intro h;exact hgood ⟨h1,h2,fh⟩
   clear aq hT a8 au hgood hr;cases aD
   ·clear aL
    exact yU
   ·cases aE
    ·clear aL
     exact yU
    ·have bx:=aL rfl rfl
     clear aL;exact yU
  obtain⟨rfl,rfl,h2⟩:=hgood;obtain⟨y0,y1,rfl⟩:=two h2;have bF:Hid (nS s (n-(k+1)) (pos+m+q2) (a5++[⟨t,y0,y1⟩])=nS s n (z0+z1) []):=fk (by rw[show n-(k+1)=r from fh,<-hT,JE a8 au]);have co:=(vU a8).1;have aL:((([y0,y1]:D Int).length:Int) != 2)=M:=rfl;clear a8 au hr hT
  go_wp2_with(first
   | (go_at_call 109;refine(zgB s (pos:Int) _ hs2 hpI).mono ?_;rw[HU1.out];rintro e v3 ⟨rfl,hG3⟩)
   | (go_at_call 110;refine(zdN s ((pos:Int)+(m:Int)) _ hs2 hpmI).mono ?_;rw[HU2.out];rintro e v4 ⟨A6,c6,rfl,hF4,hG4⟩;have hG34:fy wr v4:=(fy.trans gF hG3).trans (fy.trans gF hG4);have r2:=zj r2 hG34;have r4:=zj r4 hG34;have hbx:=zj hbx hG34;obtain⟨a0,a1,a2,a3,a4,af,al⟩:=jO r2;obtain⟨b0,b1,b2,b3,b4,bf,bl⟩:=jO r4;obtain⟨x0,x1,x2,x3,x4,xf,xl⟩:=jO hbx))
  obtain⟨g6,o6,bL,bU,ae⟩:=Dd hF4.read gm;subst bL;have bn:=(ae 0 y0 rfl).1;have bK:=(ae 1 y1 rfl).1;rw[Wk] at bn;have bI:=(ae 0 y0 rfl).2;have bJ:=(ae 1 y1 rfl).2;have ar:t.size<=9223372036854775807:=fh;have bQ:=hH.out.fH hG34;have ce:=hH.out.lt
  have bT:wr.heap.size<=g6:=by
   obtain⟨S2,s1,s2⟩:=hF4.has;exact VL (VL (fy.size (fy.trans gF hG3)) (fy.size gF)) (s2 g6 (J4 s1))
  have aJ:g6∉S:=fun hm=>by have h6:=ce g6 hm;omega
  have aK:gd∉S:=fun hm=>by have h6:=hS.out gd hm;omega
  clear ae;go_upto_region 15 with(fail);refine lO (fun w'=>Vg w' ⟨gd,1,I⟩=F (J A5 a5.length c5)/\Vg w' ⟨g6,o6,I⟩=F (C Z y0)/\Vg w' ⟨g6,o6+1,I⟩=F (C Z y1)) 13 gU (by((repeat' apply Vm) <;> ((repeat (first | with_reducible assumption | with_reducible refine zd ?_ _ _ | with_reducible refine zq ?_ _ | with_reducible refine zc ?_ | with_reducible refine ow ?_ _));done))) (fun hH=>?_);refine .tq 0 [13] hH ?_;refine .tq 1 [13] hH ?_;refine .tq 2 [13] hH ?_;refine .tq 3 [13] hH ?_;refine .tq 4 [13] hH ?_;refine .tq 5 [13] hH ?_;refine .tq 6 [13] hH ?_;refine .tq 7 [13] hH ?_;refine .tq 8 [13] hH ?_;refine .tq 9 [13] hH ?_;refine fL.one (i:=10) gU rfl (fun K hK=>?_);go_simp;refine hK.out _ _ (by((repeat' apply Vm) <;> ((repeat (first | with_reducible assumption | with_reducible refine zd ?_ _ _ | with_reducible refine zq ?_ _ | with_reducible refine zc ?_ | with_reducible refine ow ?_ _));done))) (fun hH10=>?_);clear hK hH
  try simp only[lay]
  refine fL.one (i:=11) gU rfl (fun K hK=>?_);(refine sv (L:=a5.length+1) rfl (.tmp 90) (.tmp 99) FJ EF (bQ.fH gF) (W1:=w) (B:=0) (ec:=[Q t,C Z y0,C Z y1]) (y:=(⟨t,y0,y1⟩:fR)) (Io (x:=⟨t,y0,y1⟩) ar bI bJ) rfl rfl rfl (by intro j u hu;simpa[go_sem] using hu) rfl fh fh ?_;intro A8 c8 W8 S8 ag aN aR;have u1:=zE x1 gF ag aK;have u2:=zE bn gF ag aJ;have u3:=zE bK gF ag aJ;have b9:=(ag.block gd (Vn xl (fy.size gF)) aK).trans (zj hbx gF);obtain⟨f0,f1,f2,f3,f4,ff,fl⟩:=jO b9);refine hK.out _ _ (by((repeat' apply Vm) <;> ((repeat (first | with_reducible assumption | with_reducible refine zd ?_ _ _ | with_reducible refine zq ?_ _ | with_reducible refine zc ?_ | with_reducible refine ow ?_ _));done))) (fun hH1011=>?_);clear hK hH10
  try simp only[lay]
  refine .tq 12 [13] hH1011 ?_;refine fL.last gU rfl gU (fun K hK=>?_);go_simp;refine hK.out _ _ ?_;clear hK
  try simp only[lay]
  have bt:(W8.setCell ⟨gd,1,I⟩ (J A8 (a5.length+1) c8)).heap[gd]?=F (U #[C Z (id:Int),J A8 (a5.length+1) c8,J I 0 0,J I 0 0,J I 0 0] 108 (0,0)):=ko b9 rfl;have ac:fG [gd] W8 (W8.setCell ⟨gd,1,I⟩ (J A8 (a5.length+1) c8)):=(fG.refl _ _).setCell (p:=⟨gd,1,I⟩) gm _;generalize (W8.setCell _ _)=W9 at bt ac |-;have bc:g2∉S:=fun hm=>by have h6:=hS.out g2 hm;omega
  have bd:g4∉S:=fun hm=>by have h6:=hS.out g4 hm;omega
  have bx:g2<W8.heap.size:=fh;have bY:g4<W8.heap.size:=fh;have cf:=(ac.block g2 bx (by simp only[Vi];omega)).trans ((ag.block g2 (Vn al (fy.size gF)) bc).trans (zj r2 gF));have cg:=(ac.block g4 bY (by simp only[Vi];omega)).trans ((ag.block g4 (Vn bl (fy.size gF)) bd).trans (zj r4 gF));have aH:∀ b∈S8,gd<b:=fun b hb=>(aR b hb).elim (hS.out b) (fun h=>Vn (Vn xl (fy.size gF)) h);have bR:=Has.gu aN ac (fun b hb hm=>by simp only[Vi] at hm;have:=aH b hb;omega);have ab:fy w W9:=ac.fH (ag.fH ((hG.out.trans hG34).trans gF) (fun b hb=>by have:=hS.out b hb;omega)) (by simp only[Vi];rintro b rfl;omega);clear r2 r4 hbx b9 ag ac aN aR;go_wp2_with(fail);go_roundw;exact⟨k+1,pos+m+q2,a5++[⟨t,y0,y1⟩],A8,c8,S8,io,io,fh,c4,by simp;omega,bF,fk ab,cf,cg,by simpa using bt,fk (by simpa using bR),fk aH⟩;exact iC
 ·obtain rfl:k=n:=fh
  have bX:¬ ((k:Int)<(k:Int)):=fh;have aa:nS s k (z0+z1) []=F (a5,pos):=by rw[<-HT.out,Ws];rfl
  have bz:=(I3 k (z0+z1) [] a5 pos bA aa).2.2;have ca:nH a5<=54525952:=by simp only[nH,List.map_nil,List.sum_nil] at bz |-;omega
  have bB:=fk (fun(h:po s 3 pos []=I)=>HN.out (QO aa h));have bH:=fk (fun(p0 p1 p2:G) (b:Nat) (h:po s 3 pos []=F ([p0,p1,p2],b))=>(show uB s id k (z0+z1)=_ from QP (id:=(id:Int)) aa h));clear aa bz;go_upto_region 17 with(fail);go_wp2_with(fail);go_loopw [6,19,20] (fun p u q wq=>∃(j p2:Nat) (ps:D G) (A7:N VQ) (c7:Nat) (S7:D Nat),p=C Z (p2:Int)/\u=J A7 ps.length c7/\q=C Z (j:Int)/\j<=3/\p2<=s.size/\ps.length<=3/\Hid (ps.length=j)/\Hid (po s (3-j) p2 ps=po s 3 pos [])/\Hid (fy wr wq)/\Hid (Has (jB.sl 9) wq [J A7 ps.length c7] ps S7)/\Hid (∀ b∈S7,wr.heap.size<=b)) (fun _ _ q _=>3-(Wj q).toNat)
  case atStart=>exact⟨0,pos,[],_,0,[wr.heap.size],rfl,rfl,rfl,gv,aM,gv,fk rfl,fk rfl,fk gF,fk (Has.iK jB (Vj wr (U #[] 9))),fk (fun b hb=>by simp only[Vi] at hb;omega)⟩
  obtain⟨j,p2,ps,A7,c7,S7,rfl,rfl,rfl,hj,cq,cr,aZ,bk,av,bp,bs⟩:=hrel;have bo:=hG.out.trans av.out;have bq:=hH.out.fH av.out;have r2:=zj r2 av.out;have r4:=zj r4 av.out;have hbx:=zj hbx av.out;by_cases hlt3:j<3
  ·have bi:(j:Int)<3:=fh
   have hpI:fQ (p2:Int):=⟨fh,fh⟩
   obtain⟨r,hr⟩:∃ r,3-j=r+1:=⟨3-j-1,fh⟩
   have hT:=bk.out;rw[hr] at hT;obtain⟨t,m,aD,a8⟩:∃ t m ok,lk s (p2:Int)=(t,m,ok):=⟨_,_,_,rfl⟩
   have HU1:=fk a8;have cd:Vl Z ((j:Int)+1)=(j:Int)+1:=iw;have ct:wr=wr:=rfl;cases aD
   ·have HB:=fk (bB.out (by rw[<-hT];exact KZ a8))
    clear hT a8 hr;go_wp2_with(go_at_call 109;refine(zgB s (p2:Int) _ hs2 hpI).mono ?_;rw[HU1.out];rintro e v3 ⟨rfl,hG3⟩;have hG34:fy wr v3:=fy.trans gF hG3;have r2:=zj r2 hG34;have r4:=zj r4 hG34;have hbx:=zj hbx hG34;obtain⟨a0,a1,a2,a3,a4,af,al⟩:=jO r2;obtain⟨b0,b1,b2,b3,b4,bf,bl⟩:=jO r4;obtain⟨x0,x1,x2,x3,x4,xf,xl⟩:=jO hbx);have hs5:=uF r2 (C Z 0) (J I 0 0) (J I 0 0) (J I 0 0) (J I 0 0);obtain⟨q0,q1,q2,q3,q4,_,_⟩:=jO hs5.1;exact Vr (v:=.tuple #[.agg #[C Z 0,J I 0 0,J I 0 0,J I 0 0,J I 0 0],X M]) (by simp[VF,results73,go_sem,q0,q1,q2,q3,q4]) rfl (jP.no (HB.out) (hs5.2.fH (bo.trans hG34) (by simp only[Vi];rintro b rfl;exact hw2)))
   ·have bZ:=vU a8
    have c0:Vl Z ((p2:Int)+(m:Int))=(p2:Int)+(m:Int):=iw;have bG:Hid (po s (3-(j+1)) (p2+m) (ps++[t])=po s 3 pos []):=fk (by rw[show 3-(j+1)=r from fh,<-hT,K3 a8]);have ar:t.size<=9223372036854775807:=fh;clear hT a8 hr
    go_wp2_with(first
     | (go_at_call 109;refine(zgB s (p2:Int) _ hs2 hpI).mono ?_;rw[HU1.out];rintro e v3 ⟨rfl,hG3⟩;have hG34:fy wr v3:=fy.trans gF hG3;have r2:=zj r2 hG34;have r4:=zj r4 hG34;have hbx:=zj hbx hG34;obtain⟨a0,a1,a2,a3,a4,af,al⟩:=jO r2;obtain⟨b0,b1,b2,b3,b4,bf,bl⟩:=jO r4;obtain⟨x0,x1,x2,x3,x4,xf,xl⟩:=jO hbx)
     | (refine zG (L:=ps.length+1) rfl (.tmp 122) (.tmp 124) vu ng ((bp.out.fH hG34).fH gF) (W1:=w) (B:=0) (ec:=[Q t]) (y:=t) ⟨rfl,ar⟩ rfl rfl rfl (by intro j u hu;simpa[go_sem] using hu) rfl fh fh ?_;intro A8 c8 W8 S8 ag aN aR))
    go_roundw;exact⟨j+1,p2+m,ps++[t],A8,c8,S8,io,gm,io,fh,fh,by simp;have:=aZ.out;omega,fk (by simp[aZ.out]),bG,fk (ag.fH ((av.out.trans hG34).trans gF) bs.out),fk (by simpa using aN),fk (fun b hb=>(aR b hb).elim (bs.out b) (fun h=>VL ((av.out.trans hG34).trans gF).size h))⟩;exact iC
  ·obtain rfl:j=3:=fh
   have bi:¬ ((3:Int)<3):=fh;obtain⟨t0,t1,t2,rfl⟩:=TD aZ.out;have bj:po s 3 pos []=F ([t0,t1,t2],p2):=by rw[<-bk.out];rfl
   have hY:=bH.out t0 t1 t2 p2 bj;have ar:=(KD 3 pos [] _ p2 aM bj).2.2.2 gm;have cv:=ar t0 gm;have cw:=ar t1 gm;have cx:=ar t2 gm;obtain⟨R1,o1,aO⟩:∃ r o,qD t0=(r,o):=⟨_,_,rfl⟩
   obtain⟨R2,o2,aP⟩:∃ r o,qK t1=(r,o):=⟨_,_,rfl⟩
   obtain⟨R3,o3,aQ⟩:∃ r o,ph t2=(r,o):=⟨_,_,rfl⟩
   rw[aO,aP,aQ] at hY;simp only at hY;have l1:=N1 t0;have l2:=Oz t1;have l3:=Pw t2;rw[aO] at l1;rw[aP] at l2;rw[aQ] at l3;simp only at l1 l2 l3;have ch:t0.size<=4194304:=fh;have ci:t1.size<=4194304:=fh;have cj:t2.size<=4194304:=fh;have bC:=fk aO;have bD:=fk aP;have bE:=fk aQ;have bm:=fk hY;clear aO aP aQ hY bj ar;have ba:=hbx;obtain⟨gs,os,bM,cn,a9⟩:=Tr bp.out.read gm;subst bM;have s0:=a9 0 t0 rfl;have s1:=a9 1 t1 rfl;have s2:=a9 2 t2 rfl;rw[Wk] at s0;clear a9
   go_upto_region 32 with(first
    | (go_at_call 111;refine(zsw t0 _ ch).mono ?_;rw[bC.out];rintro e v5 ⟨B1,e1,Q1,rfl,b7,c1,bN⟩;have ah:fy wr v5:=fy.trans gF bN;have s1:=zN ah s1;have s2:=zN ah s2)
    | (go_at_call 112;refine(zuO t1 _ ci).mono ?_;rw[bD.out];rintro e v6 ⟨B2,e2,Q2,rfl,b8,c2,bO⟩;have ai:fy v5 v6:=fy.trans gF bO;have s2:=zN ai s2)
    | (go_at_call 113;refine(zwx t2 _ cj).mono ?_;rw[bE.out];rintro e v7 ⟨B3,e3,Q3,rfl,br,c3,bP⟩;have aj:fy v6 v7:=fy.trans gF bP;have ad:fy wr v7:=(ah.trans ai).trans aj;have r2:=zj r2 ad;have r4:=zj r4 ad;have hbx:=zj hbx ad;obtain⟨a0,a1,a2,a3,a4,af,al⟩:=jO r2;obtain⟨b0,b1,b2,b3,b4,bf,bl⟩:=jO r4;obtain⟨x0,x1,x2,x3,x4,xf,xl⟩:=jO hbx))
   have bV:=(blt ba)
   have aI:(((v7.setCell ⟨gd,2,I⟩ (J B1 R1.length e1)).setCell ⟨gd,3,I⟩ (J B2 R2.length e2)).setCell ⟨gd,4,I⟩ (J B3 R3.length e3)).heap[gd]?=F (U #[C Z (id:Int),J A5 a5.length c5,J B1 R1.length e1,J B2 R2.length e2,J B3 R3.length e3] 108 (0,0)):=
    ko (cur:=#[C Z (id:Int),J A5 a5.length c5,J B1 R1.length e1,J B2 R2.length e2,J I 0 0]) (ko (cur:=#[C Z (id:Int),J A5 a5.length c5,J B1 R1.length e1,J I 0 0,J I 0 0]) (ko hbx rfl) rfl) rfl
   have a7:fG [gd] v7 (((v7.setCell ⟨gd,2,I⟩ (J B1 R1.length e1)).setCell ⟨gd,3,I⟩ (J B2 R2.length e2)).setCell ⟨gd,4,I⟩ (J B3 R3.length e3)):=(((fG.refl _ _).setCell (p:=⟨gd,2,I⟩) gm _).setCell (p:=⟨gd,3,I⟩) gm _).setCell (p:=⟨gd,4,I⟩) gm _;generalize (((v7.setCell _ _).setCell _ _).setCell _ _)=Va at aI a7 |-;have bh:w.heap.size<=gd:=fh;have r2:=(a7.block g2 al (by simp only[Vi];omega)).trans r2;have r4:=(a7.block g4 bl (by simp only[Vi];omega)).trans r4;have hGV:fy w Va:=a7.fH (bo.trans ad) (by simp only[Vi];rintro b rfl;exact bh);have an:∀ b∈Q1,wr.heap.size<=b:=c1;have ao:∀ b∈Q2,v5.heap.size<=b:=c2;have ap:∀ b∈Q3,v6.heap.size<=b:=c3;have m5:=ah.size;have m6:=ai.size;have m7:=aj.size;have n0:=bq.lt;have n1:=b7.lt;have n2:=b8.lt;have b6:=(bq.fH ad).gu a7 (fun b hb hm=>by simp only[Vi] at hm;have:=hS.out b hb;omega);have aw:=(b7.fH (ai.trans aj)).gu a7 (fun b hb hm=>by simp only[Vi] at hm;have:=an b hb;omega);have ax:=(b8.fH aj).gu a7 (fun b hb hm=>by simp only[Vi] at hm;have:=ao b hb;omega);have ay:=br.gu a7 (fun b hb hm=>by simp only[Vi] at hm;have:=ap b hb;omega);clear x0 x1 x2 x3 x4 xf xl a0 a1 a2 a3 a4 af al b0 b1 b2 b3 b4 bf bl b7 b8 br;obtain⟨a0,a1,a2,a3,a4,af,al⟩:=jO r2;obtain⟨b0,b1,b2,b3,b4,bf,bl⟩:=jO r4;obtain⟨x0,x1,x2,x3,x4,xf,xl⟩:=jO aI;by_cases hoo:o1=H/\o2=H/\o3=H
   case neg=>
    have HB:=fk (HN.out (bm.out.trans (Vo hoo)));cases o1
    ·go_wp2_with(fail)
     exact tY
    ·cases o2
     ·go_wp2_with(fail)
      exact tY
     ·cases o3
      ·go_wp2_with(fail)
       exact tY
      ·exact absurd ⟨rfl,rfl,rfl⟩ hoo
   obtain⟨rfl,rfl,rfl⟩:=hoo;have aA:fQ (id:Int):=⟨fh,fh⟩
   have bu:sS ⟨(id:Int),a5,R1,R2,R3⟩:=⟨by simp only;omega,by simp only;omega,by simp only;omega,by simp only;omega⟩
   have aS:=HY.out _ (bm.out.trans (Vs ⟨rfl,rfl,rfl⟩));by_cases he:oM ⟨(id:Int),a5,R1,R2,R3⟩=s
   ·have HR:Hid (sK s=(⟨(id:Int),a5,R1,R2,R3⟩,H)):=fk (by rw[aS,Vs he])
    have aW:=fk he;have bS:(s.toList != s.toList)=M:=by rw[bne,mb,Vv rfl];rfl
    clear he aS;go_wp2_with(go_at_call 74;refine(Ke b6.read aw.read ax.read ay.read aA bu).mono ?_;rw[aW.out];rintro e v8 ⟨rfl,ab⟩;have r2:=zj r2 ab;have aI:=zj aI ab;obtain⟨a0,a1,a2,a3,a4,af,al⟩:=jO r2;obtain⟨x0,x1,x2,x3,x4,xf,xl⟩:=jO aI);have hs5:=uF r2 (C Z (id:Int)) (J A5 a5.length c5) (J B1 R1.length e1) (J B2 R2.length e2) (J B3 R3.length e3);obtain⟨q0,q1,q2,q3,q4,_,_⟩:=jO hs5.1;have k0:=(b6.fH ab).gu hs5.2 (fun b hb hm=>by simp only[Vi] at hm;have:=hS.out b hb;omega);have k1:=(aw.fH ab).gu hs5.2 (fun b hb hm=>by simp only[Vi] at hm;have:=an b hb;omega);have k2:=(ax.fH ab).gu hs5.2 (fun b hb hm=>by simp only[Vi] at hm;have:=ao b hb;omega);have k3:=(ay.fH ab).gu hs5.2 (fun b hb hm=>by simp only[Vi] at hm;have:=ap b hb;omega);refine Vr (v:=.tuple #[.agg #[C Z (id:Int),J A5 a5.length c5,J B1 R1.length e1,J B2 R2.length e2,J B3 R3.length e3],X H]) (by simp[VF,results73,go_sem,q0,q1,q2,q3,q4]) rfl ?_;rw[HR.out];refine⟨A5,c5,B1,e1,B2,e2,B3,e3,rfl,⟨S++Q1++Q2++Q3,PK (x:=⟨(id:Int),a5,R1,R2,R3⟩) A5 c5 S B1 e1 Q1 B2 e2 Q2 B3 e3 Q3 aA k0.1 k1.1 k2.1 k3.1,?_,?_⟩,hs5.2.fH (hGV.trans ab) (by simp only[Vi];rintro b rfl;exact hw2)⟩
    ·rw[Wb,Wb,Wb]
     refine⟨⟨⟨k0.2,k1.2,fun a ha b hb=>?_⟩,k2.2,fun a ha b hb=>?_⟩,k3.2,fun a ha b hb=>?_⟩
     ·have:=n0 a ha;have:=an b hb;omega
     ·have:=ao b hb
      rcases VA.1 ha with h | h
      ·have:=n0 a h;omega
      ·have:=n1 a h;omega
     ·have:=ap b hb
      rcases VA.1 ha with h | h
      ·rcases VA.1 h with h | h
       ·have:=n0 a h;omega
       ·have:=n1 a h;omega
      ·have:=n2 a h;omega
    ·intro b hb
     rcases VA.1 hb with h | h
     ·rcases VA.1 h with h | h
      ·rcases VA.1 h with h | h
       ·have:=hS.out b h;omega
       ·have:=an b h;omega
      ·have:=ao b h;omega
     ·have:=ap b h;omega
   ·have HR:Hid (sK s=(yH,M)):=fk (by rw[aS,Vo he])
    obtain⟨E,hE⟩:∃ E,oM ⟨(id:Int),a5,R1,R2,R3⟩=E:=⟨_,rfl⟩
    have aW:=fk hE;rw[hE] at he;have bS:(E.toList == s.toList)=M:=by rw[mb,Vp he]
    clear he hE aS;go_wp2_with(go_at_call 74;refine(Ke b6.read aw.read ax.read ay.read aA bu).mono ?_;rw[aW.out];rintro e v8 ⟨rfl,ab⟩;have r2:=zj r2 ab;have r4:=zj r4 ab;obtain⟨a0,a1,a2,a3,a4,af,al⟩:=jO r2;obtain⟨b0,b1,b2,b3,b4,bf,bl⟩:=jO r4);have hs5:=uF r2 (C Z 0) (J I 0 0) (J I 0 0) (J I 0 0) (J I 0 0);obtain⟨q0,q1,q2,q3,q4,_,_⟩:=jO hs5.1;exact Vr (v:=.tuple #[.agg #[C Z 0,J I 0 0,J I 0 0,J I 0 0,J I 0 0],X M]) (by simp[VF,results73,go_sem,q0,q1,q2,q3,q4]) rfl (jP.no (HR.out) (hs5.2.fH (hGV.trans ab) (by simp only[Vi];rintro b rfl;exact hw2)))
def nL (q:jT × Bool)(w:V)(e:Z9)(w':V):Prop:=∃ A0 c0 A1 c1 A2 c2 A3 c3,e=.returned (.tuple #[.agg #[J A0 q.1.fo.fw.length c0,J A1 q.1.fo.fD.length c1,J A2 q.1.fo.fm.length c2,J A3 q.1.gX.length c3],X q.2])/\
 gH qP w w' [J A0 q.1.fo.fw.length c0,J A1 q.1.fo.fD.length c1,J A2 q.1.fo.fm.length c2,J A3 q.1.gX.length c3] q.1/\fy w w'
theorem nL.no {q:jT × Bool} (h:q=(⟨⟨[],[],[]⟩,[]⟩,M))(hg:fy w w'):nL q w (.returned (.tuple #[.agg #[J I 0 0,J I 0 0,J I 0 0,J I 0 0],X M])) w':=by
 subst h;exact⟨I,0,I,0,I,0,I,0,rfl,⟨_,PJ (x:=⟨⟨[],[],[]⟩,[]⟩) I 0 [] I 0 [] I 0 [] I 0 [] (Has.nil jS 103 w').1 (Has.nil zv 3 w').1 (Has.nil zv 3 w').1 (Has.nil og 108 w').1,List.nodup_nil,fun b hb=>by cases hb⟩,hg⟩
theorem Qg (h:og.R w B [C Z x.Id,J A0 x.fq.length c0,J A1 x.gY.length c1,J A2 x.gz.length c2,J A3 x.gk.length c3] x) :
  fQ x.Id/\(kr.sl 137).R w B [J A0 x.fq.length c0] x.fq/\(mh.sl 205).R w B [J A1 x.gY.length c1] x.gY/\(nk.sl 216).R w B [J A2 x.gz.length c2] x.gz/\(mc.sl 214).R w B [J A3 x.gk.length c3] x.gk:=by
 obtain⟨_,_,_,_,_,_,_,_,he,hI,h0,h1,h2,h3⟩:=KK h;simp only[XB,WP,Yv,XR] at he;obtain⟨⟨rfl,rfl⟩,⟨rfl,rfl⟩,⟨rfl,rfl⟩,⟨rfl,rfl⟩⟩:=he;exact⟨hI,h0,h1,h2,h3⟩
theorem Fg {x:gQ} (h:nh.R w B [J A0 x.fw.length c0,J A1 x.fD.length c1,J A2 x.fm.length c2] x) :
  (jS.sl 103).R w B [J A0 x.fw.length c0] x.fw/\(zv.sl 3).R w B [J A1 x.fD.length c1] x.fD/\(zv.sl 3).R w B [J A2 x.fm.length c2] x.fm:=by
 obtain⟨_,_,_,_,_,_,he,h0,h1,h2⟩:=Kv h;simp only[XB,WP,Yv,XR] at he;obtain⟨⟨rfl,rfl⟩,⟨rfl,rfl⟩,⟨rfl,rfl⟩⟩:=he;exact⟨h0,h1,h2⟩
theorem Kf (h:og.R w w.heap.size [C Z x.Id,J A0 x.fq.length c0,J A1 x.gY.length c1,J A2 x.gz.length c2,J A3 x.gk.length c3] x)(hg:fy w W)(hs:nJ x) :
  VK prog 74 #[.agg #[C Z x.Id,J A0 x.fq.length c0,J A1 x.gY.length c1,J A2 x.gz.length c2,J A3 x.gk.length c3]] W fun e w'=>e=.returned (Q (oM x))/\fy W w':=by
 obtain⟨hI,h0,h1,h2,h3⟩:=Qg h;have e1:=hs.jR;have e2:=hs.sZ;have e3:=hs.rows;have e4:=hs.inl;exact zqD (d:=x) (Ty.up _ h0 hg) (Ty.up _ h1 hg) (Ty.up _ h2 hg) (Ty.up _ h3 hg) hI ⟨fh,fh,fh,fh⟩
def wg (p:D fB)(b:gP)(k:Nat):iB × Bool:=sK (oM (qI p b (k:Int)))
theorem OW (p:D fB)(b:gP)(s:gQ):kY p b s=Df s (wg p b 0) (wg p b 1):=rfl
theorem On {s:gQ} {x y:iB × Bool} (h:¬ (x.2=H/\y.2=H/\rA ⟨s,[x.1,y.1]⟩=H)):Df s x y=(⟨⟨[],[],[]⟩,[]⟩,M):=Vo h
theorem IV {s:gQ} {y:iB} (h0:(jS.sl 103).R w w.heap.size [J A0 s.fw.length c0] s.fw)(h1:(zv.sl 3).R w w.heap.size [J A1 s.fD.length c1] s.fD)
  (h2:(zv.sl 3).R w w.heap.size [J A2 s.fm.length c2] s.fm) (h3:(og.sl 108).R w w.heap.size [J A3 2 c3] [x,y]) (hs:my s<=1099511627776) :
  VK prog 56 #[.agg #[J A0 s.fw.length c0,J A1 s.fD.length c1,J A2 s.fm.length c2,J A3 2 c3]] w fun r w'=>r=.returned (X (rA ⟨s,[x,y]⟩))/\fy w w':=zur (a:=⟨s,[x,y]⟩) h0 h1 h2 h3 hs
theorem zsP {s:gQ} (hx:(zS.sl 99).R w w.heap.size [J A p.length c] p)(hll:p.length<=1099511627776)(hsx:∀ x∈p,x.gD.length<=1099511627776/\x.Expr.length<=1099511627776)(hnm:∀ x∈p,x.fJ.size<=9223372036854775807)
  (h0:(jS.sl 103).R w w.heap.size [J A0 s.fw.length c0] s.fw) (h1:(zv.sl 3).R w w.heap.size [J A1 s.fD.length c1] s.fD) (h2:(zv.sl 3).R w w.heap.size [J A2 s.fm.length c2] s.fm) (hs:my s<=1099511627776) :
  VK prog 34 #[J A p.length c,.agg #[C Z b.gW,C Z b.gN,X b.iO,X b.ic],.agg #[J A0 s.fw.length c0,J A1 s.fD.length c1,J A2 s.fm.length c2]] w (nL (kY p b s) w):=by
 have aF:=fk (fun(k:Nat) (W:V) (hG:fy w W)=>zrd (b:=b) (image:=(k:Int)) (w:=W) (Ty.up _ hx hG) hll hsx hnm);have aC:=fk (OW p b s);have aO:=fk (fun(k:Nat)=>(show sK (oM (qI p b (k:Int)))=wg p b k from rfl));have aj:=fk (fun(k:Nat)=>Gm p b (k:Int));go_enter func34,ntmps34;go_upto_region 1 with(fail);have EB:Obj:=(U #[C Z b.gW,C Z b.gN,X b.iO,X b.ic] 71)
 clear EB;have a6:fy w (((w.alloc (U #[C Z b.gW,C Z b.gN,X b.iO,X b.ic] 71)).alloc (U #[J A0 s.fw.length c0,J A1 s.fD.length c1,J A2 s.fm.length c2] 28)).alloc (U #[J I 0 0,J I 0 0,J I 0 0,J I 0 0] 31)):=gG;have e4:(((w.alloc (U #[C Z b.gW,C Z b.gN,X b.iO,X b.ic] 71)).alloc (U #[J A0 s.fw.length c0,J A1 s.fD.length c1,J A2 s.fm.length c2] 28)).alloc (U #[J I 0 0,J I 0 0,J I 0 0,J I 0 0] 31)).heap[w.heap.size]?=F (U #[C Z b.gW,C Z b.gN,X b.iO,X b.ic] 71 (0,0)):=zj (Vj w _) gF
 have e5:(((w.alloc (U #[C Z b.gW,C Z b.gN,X b.iO,X b.ic] 71)).alloc (U #[J A0 s.fw.length c0,J A1 s.fD.length c1,J A2 s.fm.length c2] 28)).alloc (U #[J I 0 0,J I 0 0,J I 0 0,J I 0 0] 31)).heap[w.heap.size+1]?=F (U #[J A0 s.fw.length c0,J A1 s.fD.length c1,J A2 s.fm.length c2] 28 (0,0)):=by
  have h:=Vj (w.alloc (U #[C Z b.gW,C Z b.gN,X b.iO,X b.ic] 71)) (U #[J A0 s.fw.length c0,J A1 s.fD.length c1,J A2 s.fm.length c2] 28);rw[VH] at h;exact zj h gF
 have e6:(((w.alloc (U #[C Z b.gW,C Z b.gN,X b.iO,X b.ic] 71)).alloc (U #[J A0 s.fw.length c0,J A1 s.fD.length c1,J A2 s.fm.length c2] 28)).alloc (U #[J I 0 0,J I 0 0,J I 0 0,J I 0 0] 31)).heap[w.heap.size+1+1]?=F (U #[J I 0 0,J I 0 0,J I 0 0,J I 0 0] 31 (0,0)):=by
  have h:=Vj ((w.alloc (U #[C Z b.gW,C Z b.gN,X b.iO,X b.ic] 71)).alloc (U #[J A0 s.fw.length c0,J A1 s.fD.length c1,J A2 s.fm.length c2] 28)) (U #[J I 0 0,J I 0 0,J I 0 0,J I 0 0] 31);rw[VH,VH] at h;exact h
 generalize (((w.alloc _).alloc _).alloc _)=Y at a6 e4 e5 e6 |-;obtain⟨g4,aw⟩:∃ g,w.heap.size=g:=⟨_,rfl⟩
 obtain⟨g5,ax⟩:∃ g,g4+1=g:=⟨_,rfl⟩
 obtain⟨g6,ay⟩:∃ g,g5+1=g:=⟨_,rfl⟩
 rw[aw] at e4 e5 e6 |-;rw[ax] at e5 e6 |-;rw[ay] at e6 |-;have b8:w.heap.size<=g4:=fh;have aB:w.heap.size<=g6:=fh;have a5:=fk aw;have aV:=fk ax;have aW:=fk ay;clear aw ax ay;obtain⟨x0,x1,x2,xf,xl⟩:=kL e5;have z0:=Ty.up _ h0 a6;have z1:=Ty.up _ h1 a6;have z2:=Ty.up _ h2 a6;go_wp2_with(go_at_call 72;refine(zhM (s:=s) z0 z1 z2 hs).mono ?_;rintro e v1 ⟨B0,d0,B1,d1,B2,d2,rfl,aI,af⟩);have aZ:=aI.has;obtain⟨S0,ac,a7⟩:=aZ;have e8:=Vj v1 (U #[J B0 s.fw.length d0,J B1 s.fD.length d1,J B2 s.fm.length d2,J I 0 0] 31);have ad:fy v1 (v1.alloc (U #[J B0 s.fw.length d0,J B1 s.fD.length d1,J B2 s.fm.length d2,J I 0 0] 31)):=gG;have a8:∀ b∈S0,b<v1.heap.size:=ac.lt;have ai:(v1.alloc (U #[J B0 s.fw.length d0,J B1 s.fD.length d1,J B2 s.fm.length d2,J I 0 0] 31)).heap.size=v1.heap.size+1:=VH _ _;obtain⟨g8,aN⟩:∃ g,v1.heap.size=g:=⟨_,rfl⟩
 have b7:g6<Y.heap.size:=(jF e6).2.2.2.2.2;have b6:Y.heap.size<=g8:=by have:=af.size;omega
 rw[aN] at e8 a8 ai |-;clear aN;have ac:=ac.fH ad;have az:=(a6.trans af).trans ad;have e4:=zj (zj e4 af) ad;have e6:=zj (zj e6 af) ad;generalize (v1.alloc _)=Va at e8 e4 e6 ac az ad ai |-;have b4:=a6.size;have b5:g4<g8:=by have:=a5.out;have:=aV.out;have:=aW.out;omega
 have aH:g6<g8:=fh;have al:=fk (show ∀ b∈S0,w.heap.size<=b from fun b hb=>by have:=a7 b hb;omega);have ae:=fk a8;have am:=fk (show ∀ b∈S0,g6<b from fun b hb=>by have:=a7 b hb;omega);have aS:=fk ac;have aQ:=fk e4;have aR:=fk e6;have aE:=fk az;clear z0 z1 z2 x0 x1 x2 xf xl e5 aI af ad a7 a8 ac e4 e6 az a6 b4;go_loopw [9] (fun z9 wr=>∃(k:Nat) (a4:D iB) (A5:N VQ) (c5:Nat) (S:D Nat),z9=C Z k/\k<=2/\a4.length=k/\Hid (∀ i<k,a4[i]?=F (wg p b i).1/\(wg p b i).2=H)/\Hid (fG [g8] Va wr)/\Hid (wr.heap[g8]?=F (U #[J B0 s.fw.length d0,J B1 s.fD.length d1,J B2 s.fm.length d2,J A5 k c5] 31 (0,0)))/\Hid (Has (og.sl 108) wr [J A5 k c5] a4 S)/\Hid (∀ b∈S,Va.heap.size<=b)) (fun z9 _=>2-(Wj z9).toNat)
 case atStart=>exact⟨0,[],I,0,[],rfl,Vu _,rfl,fk (fun i h=>absurd h (YZ i)),fk (fG.refl _ _),fk e8,fk (Has.nil og 108 Va),fk (fun b hb=>by cases hb)⟩
 clear e8;obtain⟨k,a4,A5,c5,S,rfl,hk,au,HA,HO,ak,HH,HS⟩:=hrel;have a0:fy w wr:=HO.out.fH aE.out (fun b hb=>by simp only[Vi] at hb;omega);have e4:wr.heap[g4]?=F (U #[C Z b.gW,C Z b.gN,X b.iO,X b.ic] 71 (0,0)):=(HO.out.block _ fh (by simp;omega)).trans aQ.out;have e6:wr.heap[g6]?=F (U #[J I 0 0,J I 0 0,J I 0 0,J I 0 0] 31 (0,0)):=(HO.out.block _ fh (by simp;omega)).trans aR.out;have b2:=HO.out.size;by_cases hlt:k<2
 ·have b1:(k:Int)<2:=fh
  have b9:Vl Z ((k:Int)+1)=(k:Int)+1:=iw;obtain⟨x0,x1,x2,x3,xf,xl⟩:=jF e4;have b0:k=0∨k=1:=fh;obtain⟨d,ok,ag⟩:∃ d ok,wg p b k=(d,ok):=⟨_,_,rfl⟩
  have HD:=fk ((aO.out k).trans ag);have aP:=fk ag;cases ok with
  | false=>
   have HN:=fk (show kY p b s=(⟨⟨[],[],[]⟩,[]⟩,M) from by
    rw[aC.out];refine On (fun h=>?_);rcases b0 with rfl | rfl
    ·rw[ag] at h;exact absurd h.1 Bool.false_ne_true
    ·rw[ag] at h;exact absurd h.2.1 Bool.false_ne_true)
   clear ag
   go_wp2_with(first
    | (go_at_call 75;refine(aF.out k _ a0).mono ?_;rintro e v2 ⟨C0,f0,C1,f1,C2,f2,C3,f3,rfl,aq,a9⟩)
    | (go_at_call 74;refine(Kf (x:=qI p b (k:Int)) aq.read (fy.refl _) (aj.out k)).mono ?_;rintro e v3 ⟨rfl,aa⟩)
    | (go_at_call 73;(with_reducible refine(zqt _ _ (by have:=GY (aj.out k);omega)).mono ?_);rw[HD.out];rintro e v4 ⟨D0,q0,D1,q1,D2,q2,D3,q3,rfl,aJ,a5⟩;have ab:=(a9.trans aa).trans a5;have e6:=zj e6 ab;obtain⟨y0,y1,y2,y3,yf,yl⟩:=jF e6))
   have a2:=wj e6 (J I 0 0) (J I 0 0) (J I 0 0) (J I 0 0);have a1:=a2.2.fH (a0.trans ab) (by simp only[Vi];rintro b rfl;exact aB);obtain⟨r0,r1,r2,r3,_,_⟩:=jF (zj a2.1 (show fy _ (WJ _ (U #[C Z d.Id,J D0 d.fq.length q0,J D1 d.gY.length q1,J D2 d.gz.length q2,J D3 d.gk.length q3] 108)) from gG));exact Vr (v:=.tuple #[.agg #[J I 0 0,J I 0 0,J I 0 0,J I 0 0],X M]) (by simp[VF,results34,go_sem,r0,r1,r2,r3]) rfl (nL.no HN.out (a1.trans gF))
  | true=>
   go_wp2_with(first
    | (go_at_call 75;refine(aF.out k _ a0).mono ?_;rintro e v2 ⟨C0,f0,C1,f1,C2,f2,C3,f3,rfl,aq,a9⟩)
    | (go_at_call 74;refine(Kf (x:=qI p b (k:Int)) aq.read (fy.refl _) (aj.out k)).mono ?_;rintro e v3 ⟨rfl,aa⟩)
    | (go_at_call 73;(with_reducible refine(zqt _ _ (by have:=GY (aj.out k);omega)).mono ?_);rw[HD.out];rintro e v4 ⟨D0,q0,D1,q1,D2,q2,D3,q3,rfl,aJ,a5⟩;have ab:=(a9.trans aa).trans a5;have e8:=zj ak.out (fy.trans (b:=v4) ab (show fy v4 (v4.alloc (U #[C Z d.Id,J D0 d.fq.length q0,J D1 d.gY.length q1,J D2 d.gz.length q2,J D3 d.gk.length q3] 108)) from gG));obtain⟨y0,y1,y2,y3,yf,yl⟩:=jF e8;obtain⟨SD,aX,ar⟩:=aJ.has)
    | (refine zJ (L:=k+1) rfl (.tmp 32) (.tmp 34) SG (S:=S) (HH.out.fH (ab.trans gF)) (aX.fH gF) (fun b hb hm=>by have h1:=ar b hm;have h2:=HH.out.lt b hb;have h3:=a9.size;have h4:=aa.size;omega) rfl rfl rfl (by intro j u hu;simpa[go_sem] using hu) rfl fh fh ?_))
   intro A9 c9 W9 S9 aA aK aM;have ah:g8∉S:=fun hm=>by have:=HS.out g8 hm;omega
   have e9:=(aA.block g8 (by have h3:=a9.size;have h4:=aa.size;have h5:=a5.size;simp;omega) ah).trans (zj e8 gF);obtain⟨m0,m1,m2,m3,mf,ml⟩:=jF e9;have aU:=fk aA;have aT:=fk aK;have aG:=fk aM;clear aA aK aM;go_wp2_with(fail);go_roundw
   case measure=>exact iC
   case rel=>
    have aY:fG [g8] Va W9:=fG.on HO.out (ab.trans gF) aU.out (fun x hx=>.inr (HS.out x hx));have h3:=a9.size;have h4:=aa.size;have h5:=a5.size;refine⟨k+1,a4++[d],A9,c9,S9,io,fh,by rw[Vk,au];rfl,fk (fun i hi=>?_),fk (aY.setCell gm _),fk (py e9 3 _),fk (aT.out.gu ((fG.refl [g8] _).setCell gm _) (fun b hb hm=>?_)),fk (fun b hb=>?_)⟩
    ·by_cases hik:i<k
     ·rw[Wh fh]
      exact HA.out i hik
     ·obtain rfl:i=k:=fh
      rw[VX fh,au,Ws,aP.out];exact⟨rfl,rfl⟩
    ·simp only[Vi] at hm
     subst hm;rcases aG.out b hb with h | h | h
     ·exact ah h
     ·have:=ar b h;omega
     ·(try simp at h);omega
    ·rcases aG.out b hb with h | h | h
     ·exact HS.out b h
     ·have:=ar b h;omega
     ·(try simp at h);omega
 ·obtain rfl:k=2:=fh
  have b1:¬ (((2:Nat):Int)<2):=fh
  obtain⟨x,y,b3⟩:∃ x y,a4 = [x,y]:=by
   match a4,au with
   | [x,y],_=>exact⟨_,_,rfl⟩
  subst b3;have an:=HA.out 0 fh;have ap:=HA.out 1 fh;have ex:x=(wg p b 0).1:=by simpa using an.1
  have ey:y=(wg p b 1).1:=by simpa using ap.1
  have HV:=fk (show kY p b s=if rA ⟨s,[x,y]⟩=H then (⟨s,[x,y]⟩,H) else (⟨⟨[],[],[]⟩,[]⟩,M) from by
   rw[aC.out];unfold Df;rw[an.2,ap.2,<-ex,<-ey]
   simp only[Yv])
  clear an ap ex ey;have aL:=aS.out.gu HO.out (fun b hb hm=>by simp only[Vi] at hm;have:=ae.out b hb;omega);obtain⟨t0,t1,t2⟩:=Fg aL.read;have t3:=HH.out.read;obtain⟨x0,x1,x2,x3,xf,xl⟩:=jF ak.out;obtain⟨y0,y1,y2,y3,yf,yl⟩:=jF e6;obtain⟨ao,av⟩:∃ ao,rA ⟨s,[x,y]⟩=ao:=⟨_,rfl⟩
  have aD:=fk av;cases ao with
  | false=>
   have HN:=fk (show kY p b s=(⟨⟨[],[],[]⟩,[]⟩,M) from by rw[HV.out,av];rfl);go_wp2_with(go_at_call 56;refine(IV t0 t1 t2 t3 hs).mono ?_;rw[aD.out];rintro e v5 ⟨rfl,a3⟩;have e6:=zj e6 a3;obtain⟨y0,y1,y2,y3,yf,yl⟩:=jF e6);have a2:=wj e6 (J I 0 0) (J I 0 0) (J I 0 0) (J I 0 0);have a1:=a2.2.fH (a0.trans a3) (by simp only[Vi];rintro b rfl;exact aB);obtain⟨r0,r1,r2,r3,_,_⟩:=jF a2.1;exact Vr (v:=.tuple #[.agg #[J I 0 0,J I 0 0,J I 0 0,J I 0 0],X M]) (by simp[VF,results34,go_sem,r0,r1,r2,r3]) rfl (nL.no HN.out a1)
  | true=>
   have HN:=fk (show kY p b s=(⟨s,[x,y]⟩,H) from by rw[HV.out,av];rfl);go_wp2_with(go_at_call 56;refine(IV t0 t1 t2 t3 hs).mono ?_;rw[aD.out];rintro e v5 ⟨rfl,a3⟩;have e6:=zj e6 a3;obtain⟨y0,y1,y2,y3,yf,yl⟩:=jF e6;have e8:=zj ak.out a3;obtain⟨x0,x1,x2,x3,xf,xl⟩:=jF e8);have a2:=wj e6 (J B0 s.fw.length d0) (J B1 s.fD.length d1) (J B2 s.fm.length d2) (J A5 2 c5);have a1:=a2.2.fH (a0.trans a3) (by simp only[Vi];rintro b rfl;exact aB);obtain⟨r0,r1,r2,r3,_,_⟩:=jF a2.1;have k0:=(aL.fH a3).gu a2.2 (fun b hb hm=>by simp only[Vi] at hm;have:=am.out b hb;omega);have k1:=(HH.out.fH a3).gu a2.2 (fun b hb hm=>by simp only[Vi] at hm;have:=HS.out b hb;omega);refine Vr (v:=.tuple #[.agg #[J B0 s.fw.length d0,J B1 s.fD.length d1,J B2 s.fm.length d2,J A5 2 c5],X H]) (by simp[VF,results34,go_sem,r0,r1,r2,r3]) rfl ?_;rw[HN.out];exact⟨B0,d0,B1,d1,B2,d2,A5,c5,rfl,Nt (x:=⟨s,[x,y]⟩) (u0:=w) (m0:=g8) (u1:=Va) (m1:=_) ⟨S0,k0.1,k0.2,fun b hb=>⟨al.out b hb,ae.out b hb⟩⟩ (TW k1 HS.out) (Vz _) aE.out.size (.inl fh),a1⟩
structure Static (P:Program)(n:FuncId):Prop where
 fn:∃ fn:Func,P.funcs[n]?=F fn/\fn.body.isNone=M/\(fn.name == "runtime.NumGoroutine")=M
theorem Qm {a:Act} {n:FuncId} {args:Array Operand} {tys:Array Wl} (hs:Static P n)(ho:o.op=.call { callee:=.value (.func n),args:=args,argTypes:=tys }) :
  (execOp a.eval o).run P w=.ok (.enter n (args.map a.eval)) w:=by
 obtain⟨a5,op,a4,a0,a1,a6⟩:=o;simp only at ho;subst ho;obtain⟨fn,hf,hb,hn⟩:=hs.fn;go_simp;have a3:¬ fn.name = "runtime.NumGoroutine":=by simpa using hn
 have a2:¬ fn.body=I:=by intro h;rw[h] at hb;cases hb
 simp[callFunc,hf,a3,a2,go_sem]
theorem rT {ops:Array Oper} {a:Act} {K:Act->V->Prop} {Vc:Exit->Act->V->Prop} {E:Prop} {n:FuncId} {args:Array Operand} {tys:Array Wl} {vals:Array Value} {U3:Z9->V->Prop} (hs:Static P n)(hgd:o.guard=I)(ho:o.op=.call { callee:=.value (.func n),args:=args,argTypes:=tys })(hc:VK P n vals w U3)
  (he:args.map a.eval=vals) (h:∀ e w',U3 e w'->∃ v,e=.returned v/\K (a.put o.dst v) w'):if V6 o (Xb ops a.tmps)=H then Oper.wp P o a w K Vc else E:=by
 rw[Vs (by simp[V6,hgd])];unfold Oper.wp;rw[Qm hs ho,Oper.upon_enter,he];refine hc.mono ?_;intro e w' hC;obtain⟨v,rfl,hk⟩:=h e w' hC;exact hk
theorem Jd:Static prog 105:=⟨_,func105,rfl,gv⟩
theorem Ga (HG:fy Y W)(o:Obj):fy W (W.alloc o)/\(W.alloc o).heap[W.heap.size]?=F o/\Y.heap.size<=W.heap.size:=⟨(fy.refl _).alloc _,Vj _ _,HG.size⟩
theorem Ma {α:Type} {T:Ty α} {cs:D Value} {x:α} (h:Has T W cs x S):∀ b∈S,b≠W.heap.size:=fun b hb=>YO (h.lt b hb)
theorem DI {o:Obj} (h:W.heap[g]?=F o):g≠W.heap.size:=YO (blt h)
theorem Ca {o:Obj} (hS:∀ b∈S,W.heap.size<=b)(h:W.heap[g]?=F o):∀ b∈S,b≠g:=fun b hb=>by have h1:=hS b hb;have h2:=(blt h);omega
theorem Mp (HG:fy Y W)(hS:∀ b∈S,W.heap.size<=b):∀ b∈S,Y.heap.size<=b:=fun b hb=>VL HG.size (hS b hb)
structure uI (Y W:V)(g l n:Nat)(S:D Nat)(i0 i1:ii)(b0 b1:Int):Prop where
 fH:fy Y W
 bx:W.heap[g]?=F (U #[J (F ⟨l,0,I⟩) 2 2,J (F ⟨n,0,I⟩) 2 2,J I 0 0] 28 (0,0))
 yX:(jS.sl 103).O W [J (F ⟨l,0,I⟩) 2 2] [i0,i1] S
 DQ:(zv.sl 3).O W [J (F ⟨n,0,I⟩) 2 2] [b0,b1] [n]
 si:∀ b∈S,Y.heap.size<=b/\b≠g
 sn:Y.heap.size<=n/\n≠g
 sg:Y.heap.size<=g
theorem uI.Mu (HG:fy Y W)(el:W.heap[l]?=F (U #[Q i0.Code,J A4 i0.fq.length c4,Q i1.Code,J A5 i1.fq.length c5] 103 (0,0)))(en:W.heap[n]?=F (U #[C Z b0,C Z b1] 3 (0,0)))
  (eg:W.heap[g]?=F (U #[J I 0 0,J I 0 0,J I 0 0] 28 (0,0))) (hH4:Has (kr.sl 137) W [J A4 i0.fq.length c4] i0.fq S4) (hH5:Has (kr.sl 137) W [J A5 i1.fq.length c5] i1.fq S5) (z0:i0.Code.size<=9223372036854775807) (z1:i1.Code.size<=9223372036854775807)
  (q4:∀ b∈S4,Y.heap.size<=b) (q5:∀ b∈S5,Y.heap.size<=b) (ql:Y.heap.size<=l) (qn:Y.heap.size<=n) (qg:Y.heap.size<=g) (n4:∀ b∈S4,b≠g) (n5:∀ b∈S5,b≠g) (nl:l≠g) (nn:n≠g) (hb0:fQ b0) (hb1:fQ b1) {W':V}
  (hW:W'.heap[g]?=F (U #[J (F ⟨l,0,I⟩) 2 2,J (F ⟨n,0,I⟩) 2 2,J I 0 0] 28 (0,0))) (ho:fG [g] W W'):uI Y W' g l n (l::(S4++S5)) i0 i1 b0 b1:=by
 have k4:=hH4.gu ho (fun b hb hm=>n4 b hb (by simpa using hm));have k5:=hH5.gu ho (fun b hb hm=>n5 b hb (by simpa using hm));have kl:=(ho.block l (blt el) (by simpa using nl)).trans el;have kn:=(ho.block n (blt en) (by simpa using nn)).trans en;refine⟨ho.fH HG (fun b hb=>by simp only[Vi] at hb;omega),hW,?_,?_,fun b hb=>?_,⟨qn,nn⟩,qg⟩
 ·exact qG (T:=jS) (xs:=[i0,i1]) (S:=S4++S5) kl ⟨_,_,S4,S5,rfl,rfl,EN z0 k4.1,⟨_,[],S5,[],rfl,gm,EN z1 k5.1,⟨rfl,rfl⟩⟩⟩ gm
 ·exact qG (T:=zv) (xs:=[b0,b1]) (S:=[]) kn ⟨[C Z b0],[C Z b1],[],[],rfl,rfl,⟨rfl,hb0.1,hb0.2,rfl⟩,⟨[C Z b1],[],[],[],rfl,rfl,⟨rfl,hb1.1,hb1.2,rfl⟩,⟨rfl,rfl⟩⟩⟩ gm
 ·rcases VT.1 hb with rfl | hb
  ·exact⟨ql,nl⟩
  ·rcases VA.1 hb with hb | hb
   ·exact⟨q4 b hb,n4 b hb⟩
   ·exact⟨q5 b hb,n5 b hb⟩
theorem uI.of (HG:fy Y W)(el:W.heap[l]?=F (U #[Q i0.Code,J A4 i0.fq.length c4,Q i1.Code,J A5 i1.fq.length c5] 103 (0,0)))(en:W.heap[n]?=F (U #[C Z b0,C Z b1] 3 (0,0)))
  (eg:W.heap[g]?=F (U #[J I 0 0,J I 0 0,J I 0 0] 28 (0,0))) (hH4:Has (kr.sl 137) W [J A4 i0.fq.length c4] i0.fq S4) (hH5:Has (kr.sl 137) W [J A5 i1.fq.length c5] i1.fq S5) (z0:i0.Code.size<=9223372036854775807) (z1:i1.Code.size<=9223372036854775807)
  (q4:∀ b∈S4,Y.heap.size<=b) (q5:∀ b∈S5,Y.heap.size<=b) (ql:Y.heap.size<=l) (qn:Y.heap.size<=n) (qg:Y.heap.size<=g) (n4:∀ b∈S4,b≠g) (n5:∀ b∈S5,b≠g) (nl:l≠g) (nn:n≠g) (hb0:fQ b0) (hb1:fQ b1) :
  uI Y (((W.setCell ⟨g,0,I⟩ (J (F ⟨l,0,I⟩) 2 2)).setCell ⟨g,1,I⟩ (J (F ⟨n,0,I⟩) 2 2)).setCell ⟨g,2,I⟩ (J I 0 0)) g l n (l::(S4++S5)) i0 i1 b0 b1:=
 uI.Mu HG el en eg hH4 hH5 z0 z1 q4 q5 ql qn qg n4 n5 nl nn hb0 hb1 (vA eg _ _ _).1 (vA eg _ _ _).2
structure pL (Va W:V)(g l n:Nat)(AE:N VQ)(nE cE:Nat)(es:D Int)(SE:D Nat):Prop where
 only:fG [g] Va W
 bx:W.heap[g]?=F (U #[J (F ⟨l,0,I⟩) 2 2,J (F ⟨n,0,I⟩) 2 2,J AE nE cE] 28 (0,0))
 vE:Has (zv.sl 3) W [J AE nE cE] es SE
 lo:∀ b∈SE,Va.heap.size<=b
 len:nE=es.length
theorem pL.more {W':V} (h:pL Va W g l n AE nE cE es SE)(hg:fy W W'):pL Va W' g l n AE nE cE es SE:=
 ⟨h.only.trans (hg.only _),zj h.bx hg,h.vE.fH hg,h.lo,h.len⟩
theorem pL.push {W4:V} {B4:N VQ} {d4:Nat} {v:Int} (h:pL Va W g l n AE nE cE es SE)(hgV:g<Va.heap.size)(hon:fG SE W W4)(hH4:Has (zv.sl 3) W4 [J B4 (nE+1) d4] (es++[v]) S4)(hS4:∀ b∈S4,b∈SE∨W.heap.size<=b) :
  (W4.heap[g]?=F (U #[J (F ⟨l,0,I⟩) 2 2,J (F ⟨n,0,I⟩) 2 2,J AE nE cE] 28 (0,0)))/\pL Va (W4.setCell ⟨g,2,I⟩ (J B4 (nE+1) d4)) g l n B4 (nE+1) d4 (es++[v]) S4:=by
 have a2:=h.only.size;have a1:g∉SE:=fun hm=>by have:=h.lo g hm;omega
 have a0:=(hon.block g fh a1).trans h.bx;have o5:fG [g] W4 (W4.setCell ⟨g,2,I⟩ (J B4 (nE+1) d4)):=(fG.refl [g] W4).setCell gm _;have e5:=py a0 2 (J B4 (nE+1) d4);simp only[X5,Zt,Zu] at e5;refine⟨a0,(h.only.then hon (fun b hb=>.inr (h.lo b hb))).trans o5,e5,hH4.gu o5 (fun b hb hm=>?_),fun b hb=>?_,by rw[Vk,h.len];rfl⟩
 ·simp only[Vi] at hm
  subst hm;rcases hS4 b hb with h1 | h1
  ·exact a1 h1
  ·omega
 ·rcases hS4 b hb with h1 | h1
  ·exact h.lo b h1
  ·omega
theorem pL.AY (HV:uI Y Va g l n S i0 i1 b0 b1)(h:pL Va W g l n AE nE cE es SE):(jS.sl 103).O W [J (F ⟨l,0,I⟩) 2 2] [i0,i1] S:=
 (jS.sl 103).iA HV.yX (fun b hb=>h.only.block b ((jS.sl 103).jQ HV.yX b hb) (by simpa using(HV.si b hb).2))
theorem pL.AV (HV:uI Y Va g l n S i0 i1 b0 b1)(h:pL Va W g l n AE nE cE es SE):(zv.sl 3).O W [J (F ⟨n,0,I⟩) 2 2] [b0,b1] [n]:=
 (zv.sl 3).iA HV.DQ (fun b hb=>h.only.block b ((zv.sl 3).jQ HV.DQ b hb) (by rw[Vi.1 hb];simpa using HV.sn.2))
theorem QX (h0:(jS.sl 103).R w w.heap.size [J A0 2 c0] [i0,i1])(h1:(zv.sl 3).R w w.heap.size [J A1 2 c1] [b0,b1])
  (h2:(zv.sl 3).R w w.heap.size [J A2 n c2] es) (hn:n=es.length) (hs:my ⟨[i0,i1],[b0,b1],es⟩<=1099511627776) :
  VK prog 41 #[.agg #[J A0 2 c0,J A1 2 c1,J A2 n c2]] w fun r w'=>r=.returned (X (ke ⟨[i0,i1],[b0,b1],es⟩))/\fy w w':=by
 subst hn;exact zcj (s:=⟨[i0,i1],[b0,b1],es⟩) h0 h1 h2 hs
def Az (i:ii)(base:Int)(nm:G)(k:Nat):D Int:=((i.fq.drop k).filter fun x=>decide (x.fJ=nm)).map fun x=>base+x.fA
theorem N4 (h:i.fq.length<=k):Az i base nm k = []:=by unfold Az;rw[XG h];rfl
theorem G2 {x:fR} (h:i.fq[k]?=F x):Az i base nm k=(if x.fJ=nm then [base+x.fA] else [])++Az i base nm (k+1):=by
 obtain⟨h1,rfl⟩:=Vh.1 h;unfold Az;rw[VB h1,XD];by_cases hc:i.fq[k].fJ=nm
 ·simp[hc]
 ·simp[hc]
theorem Td {f:Nat} (h:f<=3):bits .and Z (f:Int) 1=((f % 2:Nat):Int):=by
 have:f=0∨f=1∨f=2∨f=3:=fh;rcases this with rfl | rfl | rfl | rfl <;> decide
def Uo (s:gQ)(w:V)(e:Z9)(w':V):Prop:=∃ A0 c0 A1 c1 A2 c2 S,e=.returned (.tuple #[.agg #[J A0 s.fw.length c0,J A1 s.fD.length c1,J A2 s.fm.length c2],X H])/\nh.O w' [J A0 s.fw.length c0,J A1 s.fD.length c1,J A2 s.fm.length c2] s S/\(∀ q∈S,w.heap.size<=q)/\fy w w'
theorem Ln:∀ l:D fR,(l.map uW).sum+l.length<=nH l
 | []=>Vz _
 | x::l=>by
  have:=Ln l;simp only[nH,WD,Xz,VC,uW] at this |-;omega
theorem Kl {k:Int} (hp:zA p=H)(hS:pi p)(hb:kC b=H)(hk:gE k 0 1=H):oK (zP p b k)<=2000000:=by
 have h1:=(vK (image:=k) hp hS hb hk).1;simp only[kI,Vt,VD] at h1;have h2:=(Gm p b k).jR;unfold qI at h2;rw[Vs ⟨hp,hb,hk⟩] at h2;have h3:=Ln (zP p b k).fq;unfold oK nQ;simp only at h2;have:=h1.1;omega
theorem E8 (hp:zA p=H)(hS:pi p)(h4:(zn p).length<=4)(hb:kC b=H)(h0:1<=b0/\b0<=9000)(h1:20000<=b1/\b1<=1000000):my (zo p b b0 b1)<=10000000:=by
 have k0:=Kl (k:=0) hp hS hb rfl;have k1:=Kl (k:=1) hp hS hb rfl;have k2:=Cx hp hS hb (b0:=b0) (b1:=b1) (zn p).length 0 fh;unfold my zo nQ;simp only[k2,VC,VZ,WD,List.map_nil,Xz,List.sum_nil];omega
theorem Nl (hp:zA p=H)(hS:pi p)(hb:kC b=H):∀ i∈[zP p b 0,zP p b 1],∀ x∈i.fq,0<=x.fA/\x.fA<=1000000:=by
 have a0:∀ k:Int,gE k 0 1=H->∀ x∈(zP p b k).fq,0<=x.fA/\x.fA<=1000000:=by
  intro k hk x hx;have h1:=(vK (image:=k) hp hS hb hk).1;simp only[kI,Vt,VD] at h1;have h2:=Dn h1.1 _ _ _ 0 h1.2 x hx;have:=h1.1;omega
 intro i hi;simp only[VT,WB,Xy] at hi;rcases hi with rfl | rfl
 ·exact a0 0 rfl
 ·exact a0 1 rfl
theorem zq8 (hx:(zS.sl 99).R w w.heap.size [J A p.length c] p)(hD:jo p)(hb:kC b=H)(h0:1<=b0/\b0<=9000)(h1:20000<=b1/\b1<=1000000) :
  VK prog 70 #[J A p.length c,.agg #[C Z b.gW,C Z b.gN,X b.iO,X b.ic],C Z b0,C Z b1] w (Uo (zo p b b0 b1) w):=by
 obtain⟨bF,bI,a0,bS⟩:=b;have aD:=Ea hD.ok hD.short hD.four hb h0 h1;have bG:=fk (fun w=>BA (b:=⟨bF,bI,a0,bS⟩) (w:=w));have bM:=fk hD.ok;have bE:=fk hb;have hl:=hD.len;have bL:=fk hD.parts;have ar:=fk (fun(W:V) (h:(zS.sl 99).R W W.heap.size [J A p.length c] p)=>ziT (w:=W) (A:=A) (c:=c) (b:=⟨bF,bI,a0,bS⟩) (image:=0) h fh hD.parts);have au:=fk (fun(W:V) (h:(zS.sl 99).R W W.heap.size [J A p.length c] p)=>ziT (w:=W) (A:=A) (c:=c) (b:=⟨bF,bI,a0,bS⟩) (image:=1) h fh hD.parts);have c2:fQ b0:=⟨fh,fh⟩
 have c3:fQ b1:=⟨fh,fh⟩
 have bl:=fk (show zo p ⟨bF,bI,a0,bS⟩ b0 b1=⟨[zP p ⟨bF,bI,a0,bS⟩ 0,zP p ⟨bF,bI,a0,bS⟩ 1],[b0,b1],ry p ⟨bF,bI,a0,bS⟩ (zP p ⟨bF,bI,a0,bS⟩ 0) (zP p ⟨bF,bI,a0,bS⟩ 1) b0 b1 (zn p).length 0⟩ from rfl);have ah:=fk (E8 hD.ok hD.short hD.four hb h0 h1);have aR:=fk (Nl hD.ok hD.short hb);have a2:=fk (Cx hD.ok hD.short hb (b0:=b0) (b1:=b1) (zn p).length 0 fh)
 have z0:(zP p ⟨bF,bI,a0,bS⟩ 0).Code.size<=1000000:=by
  have:=(vK (image:=0) hD.ok hD.short hb rfl).1;simp only[kI,Vt,VD] at this;exact this.1
 have z1:(zP p ⟨bF,bI,a0,bS⟩ 1).Code.size<=1000000:=by
  have:=(vK (image:=1) hD.ok hD.short hb rfl).1;simp only[kI,Vt,VD] at this;exact this.1
 rw[bl.out] at aD ah |-;generalize zP p ⟨bF,bI,a0,bS⟩ 0=i0 at ar a2 ah aR aD z0 |-;generalize zP p ⟨bF,bI,a0,bS⟩ 1=i1 at au a2 ah aR aD z1 |-;have aQ:=fk aD;clear aD bl hb;have z0:i0.Code.size<=9223372036854775807:=fh;have z1:i1.Code.size<=9223372036854775807:=fh;obtain⟨nf,aL⟩:∃ nf,(zn p).length=nf:=⟨_,rfl⟩
 have bi:=hD.four;rw[aL] at a2 aQ ah bi;have ax:=fk aL;obtain⟨aM,aj⟩:∃ aM,ry p ⟨bF,bI,a0,bS⟩ i0 i1 b0 b1 nf 0=aM:=⟨_,rfl⟩
 rw[aL];rw[aj] at a2 aQ ah |-;have aT:=fk aj;clear aj aL;have EB:=Vj w (U #[C Z bF,C Z bI,X a0,X bS] 71);have ER:((w.alloc (U #[C Z bF,C Z bI,X a0,X bS] 71)).alloc (U #[J I 0 0,J I 0 0,J I 0 0] 28)).heap[w.heap.size+1]?=F (U #[J I 0 0,J I 0 0,J I 0 0] 28 (0,0)):=by have h:=Vj (w.alloc (U #[C Z bF,C Z bI,X a0,X bS] 71)) (U #[J I 0 0,J I 0 0,J I 0 0] 28);rw[VH] at h;exact h
 have EB:=zj EB (show fy _ ((w.alloc (U #[C Z bF,C Z bI,X a0,X bS] 71)).alloc (U #[J I 0 0,J I 0 0,J I 0 0] 28)) from gG);have bs:fy w ((w.alloc (U #[C Z bF,C Z bI,X a0,X bS] 71)).alloc (U #[J I 0 0,J I 0 0,J I 0 0] 28)):=gG;have ag:=fk EB;have a8:=fk ER;clear EB ER;go_enter func70,ntmps70;go_upto_region 3 with(first | (go_at_call 102;refine(zaU (Ty.up _ hx bs) fh bL.out).mono ?_;rw[bM.out];rintro e w1 ⟨rfl,ba⟩;have ag:=fk (zj ag.out ba);have a8:=fk (zj a8.out ba);have aw:=fk (bs.trans ba);obtain⟨x0,x1,x2,x3,xf,xl⟩:=jF ag.out) | (go_at_call 104;refine(bG.out _).mono ?_;rw[bE.out];rintro e Y ⟨rfl,bb⟩;have ag:=fk (zj ag.out bb);have a8:=fk (zj a8.out bb);have aw:=fk (aw.out.trans bb);obtain⟨x0,x1,x2,x3,xf,xl⟩:=jF ag.out));obtain⟨g5,bc⟩:∃ q,w.heap.size=q:=⟨_,rfl⟩
 obtain⟨g8,bd⟩:∃ q,g5+1=q:=⟨_,rfl⟩
 rw[bc] at ag a8 x0 x1 x2 x3 xl |-;rw[bd] at a8 |-;have bH:=fk bc;have bJ:=fk bd;have HX:=fk (Ty.up _ hx aw.out);clear bc bd xf;go_cut [10] from 24 to 35 (fun v wx=>∃ g l n S,v=.pointer (F ⟨g,0,I⟩)/\uI Y wx g l n S i0 i1 b0 b1)
 case first=>
  have SB:∀{W9:V},fy Y W9->Vg W9 ⟨g5,0,I⟩=F (C Z bF)/\Vg W9 ⟨g5,1,I⟩=F (C Z bI)/\Vg W9 ⟨g5,2,I⟩=F (X a0)/\Vg W9 ⟨g5,3,I⟩=F (X bS):=fun h=>⟨za h x0,za h x1,za h x2,za h x3⟩;refine lO (fun w'=>Vg w' ⟨g5,0,I⟩=F (C Z bF)/\Vg w' ⟨g5,1,I⟩=F (C Z bI)/\Vg w' ⟨g5,2,I⟩=F (X a0)/\Vg w' ⟨g5,3,I⟩=F (X bS)) 12 gU ⟨zc x0,zc x1,zc x2,zc x3⟩ (fun hH=>?_);have HG:fy Y Y.drew:=(fy.refl _).drew;generalize Y.drew=Wx at HG hH |-
  repeat' first
   | (revert hK;intro hK
      first
       | ((fail_if_success clear D2)
          refine rT Jd rfl rfl (ar.out _ (Ty.up _ HX.out HG)) ?_ ?_
          ·go_simp
          rintro e Wx ⟨A4,c4,S4,rfl,a3,ao,hg⟩
          refine⟨_,rfl,?_⟩
          try have n4:=Ca ao eg
          have q4:=Mp HG ao
          try have a4:=a4.fH hg
          try have el:=zj el hg
          try have en:=zj en hg
          try have eg:=zj eg hg
          have HG:=HG.trans hg
          clear hg ao
          refine hK.out _ _ (SB HG) ?_
          clear hK
          have D2:=trivial
          try simp only[iI])
       | ((fail_if_success clear D5)
          refine rT Jd rfl rfl (au.out _ (Ty.up _ HX.out HG)) ?_ ?_
          ·go_simp
          rintro e Wx ⟨A5,c5,S5,rfl,a4,b4,hg⟩
          refine⟨_,rfl,?_⟩
          try have n5:=Ca b4 eg
          have q5:=Mp HG b4
          try have a3:=a3.fH hg
          try have el:=zj el hg
          try have en:=zj en hg
          try have eg:=zj eg hg
          have HG:=HG.trans hg
          clear hg b4
          refine hK.out _ _ (SB HG) ?_
          clear hK
          have D5:=trivial
          try simp only[iI])
       | (go_simp
          first
           | ((fail_if_success clear D6)
              obtain⟨hg,el,ql⟩:=Ga HG (U #[Q i0.Code,J A4 i0.fq.length c4,Q i1.Code,J A5 i1.fq.length c5] 103)
              refine hK.out _ _ (SB (HG.trans hg)) ?_
              try have nl:=(DI eg).symm
              clear hK
              try have a3:=a3.fH hg
              try have a4:=a4.fH hg
              try have en:=zj en hg
              try have eg:=zj eg hg
              have HG:=HG.trans hg
              clear hg
              generalize hx:Wx.heap.size=l at el ql |-
              try rw[hx] at nl
              clear hx
              obtain⟨Wx,hW⟩:∃ Va,WJ Wx (U #[Q i0.Code,J A4 i0.fq.length c4,Q i1.Code,J A5 i1.fq.length c5] 103)=Va:=⟨_,rfl⟩
              rw[hW] at el HG |-
              try rw[hW] at a3
              try rw[hW] at a4
              try rw[hW] at en
              try rw[hW] at eg
              clear hW
              have D6:=trivial
              try simp only[iI])
           | ((fail_if_success clear D9)
              obtain⟨hg,en,qn⟩:=Ga HG (U #[C Z b0,C Z b1] 3)
              refine hK.out _ _ (SB (HG.trans hg)) ?_
              try have nn:=(DI eg).symm
              clear hK
              try have a3:=a3.fH hg
              try have a4:=a4.fH hg
              try have el:=zj el hg
              try have eg:=zj eg hg
              have HG:=HG.trans hg
              clear hg
              generalize hx:Wx.heap.size=n at en qn |-
              try rw[hx] at nn
              clear hx
              obtain⟨Wx,hW⟩:∃ Va,WJ Wx (U #[C Z b0,C Z b1] 3)=Va:=⟨_,rfl⟩
              rw[hW] at en HG |-
              try rw[hW] at a3
              try rw[hW] at a4
              try rw[hW] at el
              try rw[hW] at eg
              clear hW
              have D9:=trivial
              try simp only[iI])
           | ((fail_if_success clear a1)
              obtain⟨hg,eg,qg⟩:=Ga HG (U #[J I 0 0,J I 0 0,J I 0 0] 28)
              refine hK.out _ _ (SB (HG.trans hg)) ?_
              try have n4:=Ma a3
              try have n5:=Ma a4
              try have nl:=DI el
              try have nn:=DI en
              clear hK
              try have a3:=a3.fH hg
              try have a4:=a4.fH hg
              try have el:=zj el hg
              try have en:=zj en hg
              have HG:=HG.trans hg
              clear hg
              generalize hx:Wx.heap.size=g at eg qg |-
              try rw[hx] at n4
              try rw[hx] at n5
              try rw[hx] at nl
              try rw[hx] at nn
              clear hx
              obtain⟨Wx,hW⟩:∃ Va,WJ Wx (U #[J I 0 0,J I 0 0,J I 0 0] 28)=Va:=⟨_,rfl⟩
              rw[hW] at eg HG |-
              try rw[hW] at a3
              try rw[hW] at a4
              try rw[hW] at el
              try rw[hW] at en
              clear hW
              have a1:=trivial
              try simp only[iI])))
   | ((fail_if_success clear T0);refine fL.st 0 [12] (SB HG) ?_;have T0:=trivial;try simp only[iI])
   | ((fail_if_success clear T1);refine fL.st 1 [12] (SB HG) ?_;have T1:=trivial;try simp only[iI])
   | ((fail_if_success clear T3);refine fL.st 3 [12] (SB HG) ?_;have T3:=trivial;try simp only[iI])
   | ((fail_if_success clear T4);refine fL.st 4 [12] (SB HG) ?_;have T4:=trivial;try simp only[iI])
   | ((fail_if_success clear T7);refine fL.st 7 [12] (SB HG) ?_;have T7:=trivial;try simp only[iI])
   | ((fail_if_success clear T8);refine fL.st 8 [12] (SB HG) ?_;have T8:=trivial;try simp only[iI])
   | ((fail_if_success clear bP);revert D2 D5 D6 D9;intro D2 D5 D6 D9;refine fL.st 10 [12] (SB HG) ?_;have bP:=trivial;try simp only[iI])
   | (revert D2 D5 D6 D9 a1;intro D2 D5 D6 D9 a1
      refine fL.sl (fun K hK=>?_)
      obtain⟨k0,k1,k2,kf,kl⟩:=kL eg
      go_simp
      refine hK.out _ _ ?_
      clear hK
      try simp only[iI]
      have HV:=uI.of HG el en eg a3 a4 z0 z1 q4 q5 ql qn qg n4 n5 nl nn c2 c3
      go_wp2_with(fail)
      go_meet
      exact⟨_,_,_,_,rfl,HV⟩)
   | (revert D2 D5 D6 D9;intro D2 D5 D6 D9;refine fL.s1 11 (fun K hK=>?_))
   | (revert D2 D5 D6 a1;intro D2 D5 D6 a1;refine fL.s1 9 (fun K hK=>?_))
   | (revert D2 D5 D9 a1;intro D2 D5 D9 a1;refine fL.s1 6 (fun K hK=>?_))
   | (revert D2 D5 D6;intro D2 D5 D6;refine fL.s2 9 11 (fun K hK=>?_) (fun K hK=>?_))
   | (revert D2 D5 D9;intro D2 D5 D9;refine fL.s2 6 11 (fun K hK=>?_) (fun K hK=>?_))
   | (revert D2 D5 a1;intro D2 D5 a1;refine fL.s2 6 9 (fun K hK=>?_) (fun K hK=>?_))
   | (revert D2 D9 a1;intro D2 D9 a1;refine fL.s1 5 (fun K hK=>?_))
   | (revert D2 D5;intro D2 D5;refine fL.s3 6 9 11 (fun K hK=>?_) (fun K hK=>?_) (fun K hK=>?_))
   | (revert D2 D9;intro D2 D9;refine fL.s2 5 11 (fun K hK=>?_) (fun K hK=>?_))
   | (revert D2 a1;intro D2 a1;refine fL.s2 5 9 (fun K hK=>?_) (fun K hK=>?_))
   | (revert D9 a1;intro D9 a1;refine fL.s1 2 (fun K hK=>?_))
   | (revert D2;intro D2;refine fL.s3 5 9 11 (fun K hK=>?_) (fun K hK=>?_) (fun K hK=>?_))
   | (revert D9;intro D9;refine fL.s2 2 11 (fun K hK=>?_) (fun K hK=>?_))
   | (revert a1;intro a1;refine fL.s2 2 9 (fun K hK=>?_) (fun K hK=>?_))
   | (refine fL.s3 2 9 11 (fun K hK=>?_) (fun K hK=>?_) (fun K hK=>?_))
 obtain⟨g,l,n,SI,rfl,HV⟩:=hcut;have aI:=HV.fH;generalize hV:wc=Va at HV aI |-;clear hV;go_wp2_with(fail);go_loopw [11] (fun z wr=>∃(f nE:Nat) (AE:N VQ) (cE:Nat) (es:D Int) (SE:D Nat),z=C Z f/\f<=nf/\Hid (es++ry p ⟨bF,bI,a0,bS⟩ i0 i1 b0 b1 (nf-f) f=aM)/\Hid (pL Va wr g l n AE nE cE es SE)) (fun z _=>nf-(Wj z).toNat)
 case atStart=>exact⟨0,0,I,0,[],[],rfl,Vu _,fk (by rw[Nat.sub_zero];exact aT.out),fk ⟨fG.refl _ _,HV.bx,Has.nil _ _ _,fun b hb=>(by cases hb),rfl⟩⟩
 obtain⟨f,nE,AE,cE,es,SE,rfl,hf,bk,HW⟩:=hrel;have ct:=HV.sg;have ay:fy Y wr:=HW.out.only.fH aI (fun b hb=>by simp only[Vi] at hb;omega);by_cases hlt:f<nf
 ·have bh:(f:Int)<((zn p).length:Int):=by rw[ax.out];omega
  have cB:Vl Z ((f:Int)+1)=(f:Int)+1:=iw;have az:=Ty.up _ HX.out ay;go_upto_region 7 with(go_at_call 106;refine(zb4 az fh).mono ?_;rintro e W1 ⟨B1,d1,T1,rfl,b2,b5,al⟩);have a5:=HW.out.more al;have am:=ay.trans al;obtain⟨x0,x1,x2,x3,xf,xl⟩:=jF (zj ag.out am);obtain⟨im,ad⟩:∃ im:Nat,(if bS=H/\f % 2=1 then 1 else 0)=im:=⟨_,rfl⟩
  have ae:im<2:=by rw[<-ad];split <;> omega
  have aA:=Td (show f<=3 from fh);go_upto_if 43 with(fail)
  go_cut [12] from 44 to 46 (fun v wx=>v=C Z (im:Int)/\W1=wx)
  case first=>
   cases bS with
   | true=>
    have aG:((f % 2:Nat):Int)=(im:Int):=by
     rw[<-ad];by_cases h:f % 2=1
     ·rw[Vs ⟨rfl,h⟩];omega
     ·rw[Vo (fun hh=>h hh.2)];omega
    rw[aG] at aA;clear ad aG;go_wp2_with(fail);go_meet;exact⟨rfl,rfl⟩
   | false=>
    have aG:im=0:=by rw[<-ad,Vo (fun hh=>by cases hh.1)]
    subst aG;clear ad;go_wp2_with(fail);go_meet;exact⟨rfl,rfl⟩
  obtain⟨rfl,rfl⟩:=hcut;obtain⟨U5,an⟩:∃ U5,[i0,i1][im]?=F U5:=⟨_,Vq (by simpa using ae)⟩
  obtain⟨bv,b7⟩:∃ bv,[b0,b1][im]?=F bv:=⟨_,Vq (by simpa using ae)⟩
  have c6:1<=bv/\bv<=1000000:=by
   have:bv=b0∨bv=b1:=by
    have:=Vx b7;simpa using this
   omega
  obtain⟨ln,bg⟩:∃ v,(zn p)[f]?=F v:=⟨_,Vq (by rw[ax.out];exact hlt)⟩
  obtain⟨j,rfl,aN,af,_⟩:=vI bg;have cf:=(Vh.1 af).1;have aP:=fk an;have aO:=fk b7;have bm:=fk bg;have bO:=fk af;have bK:=fk (Af af);have aS:=fk (aR.out U5 (Vx an))
  have cp:U5.fq.length<=10000000:=by
   have h1:=ah.out;have h2:=yD oK (xs:=[i0,i1]) an;unfold my at h1;have h4:oK U5=U5.Code.size+nQ uW U5.fq:=rfl;have h3:=BS uW U5.fq;simp only at h1;omega
  clear an b7 bg af aA x0 x1 x2 x3 xf xl am b2 b5 al az ay;have bN:=fk a5;have av:=bk;go_wp2_with(fail);go_loopw [13] (fun z wr=>∃(k nE:Nat) (AE:N VQ) (cE:Nat) (ak:D Int) (SE:D Nat),z=C Z k/\k<=U5.fq.length/\Hid (ak++Az U5 bv aN.fJ k=es++ny U5 bv aN.fJ)/\Hid (pL Va wr g l n AE nE cE ak SE)) (fun z _=>U5.fq.length-(Wj z).toNat)
  case atStart=>exact⟨0,nE,AE,cE,es,SE,rfl,Vu _,fk rfl,fk a5⟩
  clear a5 bN HW
  case round=>
   obtain⟨k,nE,AE,cE,ak,SE,rfl,hk,aE,HW⟩:=hrel;have bp:fy Y wr:=HW.out.only.fH aI (fun b hb=>by simp only[Vi] at hb;omega);have br:=Ty.up _ HX.out bp;obtain⟨y0,y1,y2,yf,yl⟩:=kL HW.out.bx;obtain⟨gI,oI,I',A0,c0,aV,cu,an,bn,bo,_,bz⟩:=vh (Ty.read _ (pL.AY HV HW.out)) (k:=im) (by simpa using ae);injection aV with aV
   injection aV with e1 e2
   subst e1 e2;simp only[VJ] at bn bo;obtain rfl:I'=U5:=by have:=aP.out;rw[an] at this;injection this
   have ce:(im:Int)<2:=fh;by_cases hkl:k<I'.fq.length
   ·have bf:(k:Int)<(I'.fq.length:Int):=fh
    have cC:Vl Z ((k:Int)+1)=(k:Int)+1:=iw;obtain⟨gs,os,x,bV,cv,bj,s0,s1,s2,_,cz,_⟩:=sC bz (k:=k) hkl;subst bV;go_upto_region 14 with(fail);have ex:=Vj wr (U #[Q x.fJ,C Z x.fA,C Z x.iG] 137);have aJ:fy wr (wr.alloc (U #[Q x.fJ,C Z x.fA,C Z x.iG] 137)):=(fy.refl _).alloc _;have b6:=HW.out.more aJ;have aH:=Ty.up _ br aJ;have be:Va.heap.size<=wr.heap.size:=HW.out.only.size;have bD:wr.heap.size∉SE:=fun hm=>Yp _ (HW.out.vE.lt _ hm);have cl:wr.heap.size≠g:=Yy (blt HW.out.bx);obtain⟨gx,bu⟩:∃ q,wr.heap.size=q:=⟨_,rfl⟩
    rw[bu] at ex be bD cl |-;generalize (wr.alloc _)=Vb at ex aJ b6 aH |-;clear bu aJ bp br y0 y1 y2 yf yl bn bo bz s0 s1 s2 HW;obtain⟨t0,t1,t2,tf,tl⟩:=kL ex;have aU:=fk b6;obtain⟨gp,op,yl,B0,d0,B2,d2,bT,cd,bB,_,pc,_⟩:=nA aH (k:=j) cf;obtain rfl:yl=aN:=by have:=bO.out;rw[bB] at this;injection this
    subst bT;have cw:(j:Int)<(p.length:Int):=fh;go_cut [77] from 66 to 78 (fun v wx=>v=X (decide (x.fJ=yl.fJ))/\Hid (fy Vb wx))
    case first=>
     go_region_law (first | (go_simp;go_at_call 106;refine(zb4 (Ty.up _ aH (fy.drew (fy.refl _))) fh).mono ?_;rintro e W2 ⟨B3,d3,T3,rfl,bZ,cq,aZ⟩;have aY:=fy.trans (fy.drew (fy.refl Vb)) aZ;obtain⟨gq,oq,vq,bU,ci,cs,_⟩:=ma bZ.read (k:=f) (by rw[ax.out];exact hlt);subst bU;obtain rfl:vq=(j:Int):=(by have:=bm.out;rw[ci] at this;injection this);have t0:=za aY t0;have pc:=za aY pc;have cy:(f:Int)<((zn p).length:Int):=(by rw[ax.out];omega)))
     all_goals
      go_wp2_with(fail)
      go_meet
      refine⟨?_,fk aY⟩
      rw[mb]
    obtain⟨rfl,aF⟩:=hcut;have a6:=fk (aU.out.more aF.out);have bq:=fk (za aF.out t1);have ai:gx<wc.heap.size:=Vn tl aF.out.size;have ca:=fk (aU.out.only.size);have aB:g<Va.heap.size:=(kL HV.bx).2.2.2.2;have bC:g∉SE:=fun hm=>by have:=a6.out.lo g hm;omega
    have ch:n<Va.heap.size:=(zv.sl 3).jQ HV.DQ n (.head _);have ck:n∉SE:=fun hm=>by have:=a6.out.lo n hm;omega
    have c8:nE<=10000010:=by
     have h1:=WY List.length aE.out;have h2:=WY List.length av.out;have h3:=a6.out.len;have h4:(ny I' bv yl.fJ).length<=I'.fq.length:=by unfold ny;rw[Yb];exact YR _ _
     have h5:=a2.out;simp only[Vk] at h1 h2;omega
    clear t0 t1 t2 tf tl ex b6 aH pc bB cd;by_cases hnm:x.fJ=yl.fJ
    ·rw[Vv hnm]
     have cj:=aS.out x (Vx bj);have cD:Vl Z (bv+x.fA)=bv+x.fA:=iw;obtain⟨gb,ob,bQ,aW,b8,b9,_⟩:=ma (Ty.read _ (pL.AV HV a6.out)) (k:=im) (by simpa using ae);injection aW with aW
     injection aW with e1 e2
     subst e1 e2;obtain rfl:bv=bQ:=by have:=aO.out;rw[b8] at this;injection this with this;exact this.symm
     simp only[VJ] at b9;obtain⟨y0,y1,y2,yf,cm⟩:=kL a6.out.bx;have bA:=bq.out;go_upto_region 15 with(fail);have aK:fy wc wc.drew:=(fy.refl _).drew;refine lO (fun w'=>Vg w' ⟨g,2,I⟩=F (J AE nE cE)/\Vg w' ⟨g,1,I⟩=F (J (F ⟨n,0,I⟩) 2 2)/\Vg w' ⟨n,im,I⟩=F (C Z bv)/\Vg w' ⟨gx,1,I⟩=F (C Z x.fA)) 13 gU ⟨zc y2,zc y1,zc b9,zc bA⟩ (fun hH=>?_);have a6:=fk (a6.out.more aK);have ai:gx<wc.drew.heap.size:=ai;obtain⟨a9,aa,ab,ac⟩:=id hH;generalize wc.drew=Wx at a6 ai a9 aa ab ac hH |-;clear aK y0 y1 y2 yf cm b9 bA bq aF aU;refine .tq 0 [13] hH ?_
     try simp only[iI]
     refine .tq 1 [13] hH ?_
     try simp only[iI]
     refine .tq 2 [13] hH ?_
     try simp only[iI]
     refine .tq 3 [13] hH ?_
     try simp only[iI]
     refine .tq 4 [13] hH ?_
     try simp only[iI]
     refine .tq 5 [13] hH ?_
     try simp only[iI]
     refine .tq 6 [13] hH ?_
     try simp only[iI]
     refine .tq 7 [13] hH ?_
     try simp only[iI]
     refine .tq 8 [13] hH ?_
     try simp only[iI]
     refine .tq 9 [13] hH ?_
     try simp only[iI]
     refine fL.s1 10 (fun K hK=>?_);go_simp;have hg:fy Wx (Wx.alloc (U #[C Z (bv+x.fA)] 3)):=(fy.refl _).alloc _;have eq:=Vj Wx (U #[C Z (bv+x.fA)] 3);have ap:=fk (a6.out.more hg);have a9:=za hg a9;have aa:=za hg aa;have ab:=za hg ab;have ac:=za hg ac;clear hg;refine hK.out _ _ ⟨a9,aa,ab,ac⟩ ?_;clear hK;have aC:gx<(WJ Wx (U #[C Z (bv+x.fA)] 3)).heap.size:=by rw[VH];omega
     obtain⟨gq,bt⟩:∃ q,Wx.heap.size=q:=⟨_,rfl⟩
     rw[bt] at eq |-;clear bt a6;generalize WJ Wx (U #[C Z (bv+x.fA)] 3)=Wq at eq ap a9 aa ab ac aC |-
     try simp only[iI]
     refine fL.s1 11 (fun K hK=>?_);have cg:zv.R Wq Wq.heap.size [C Z (bv+x.fA)] (bv+x.fA):=⟨rfl,fh,fh⟩
     refine sv (L:=nE+1) rfl (.tmp 79) (.tmp 88) me zI ap.out.vE cg rfl rfl rfl (by intro j u hu;rw[WC Wq gq _ _ _ (0,0) eq];simpa using hu) rfl fh fh ?_;intro B4 d4 W4 S4 aq a3 ao;have bw:=fk (pL.push ap.out aB aq a3 ao);have a9:=(aq.cell (by have:=ap.out.only.size;omega) bC _).trans a9;have aa:=(aq.cell (by have:=ap.out.only.size;omega) bC _).trans aa;have ab:=(aq.cell (by have:=ap.out.only.size;omega) ck _).trans ab;have ac:=(aq.cell aC bD _).trans ac;refine hK.out _ _ ⟨a9,aa,ab,ac⟩ ?_;clear hK aq a3 ao
     try simp only[iI]
     refine .tq 12 [13] ⟨a9,aa,ab,ac⟩ ?_
     try simp only[iI]
     obtain⟨k0,k1,k2,kf,kl⟩:=kL bw.out.1;refine fL.sl (fun K hK=>?_);go_simp;refine hK.out _ _ ?_;clear hK
     try simp only[iI]
     go_wp2_with(fail);go_roundw;exact⟨k+1,nE+1,B4,d4,ak++[bv+x.fA],S4,io,fh,fk (by rw[<-aE.out,G2 bj,Vs hnm,VM]),fk bw.out.2⟩;exact iC
    ·rw[Vp hnm]
     go_wp2_with(fail);go_roundw;exact⟨k+1,nE,AE,cE,ak,SE,io,fh,fk (by rw[<-aE.out,G2 bj,Vo hnm,Wo]),a6⟩;exact iC
   ·obtain rfl:k=I'.fq.length:=fh
    have bf:¬ ((I'.fq.length:Int)<(I'.fq.length:Int)):=fh;go_wp2_with(fail);go_roundw
    case measure=>exact iC
    case rel=>
     refine⟨f+1,nE,AE,cE,ak,SE,io,fh,fk ?_,HW⟩;have hE:=aE.out;rw[N4 (Vz _),Wu] at hE;have hT:=av.out;rw[show nf-f=(nf-(f+1))+1 from fh,ry] at hT;have aK:(zn p).getD f 0=(j:Int):=by rw[VR,bm.out];rfl
     have hI:(if bS=H/\f % 2=1 then ny i1 b1 (kX p ((zn p).getD f 0)) else ny i0 b0 (kX p ((zn p).getD f 0)))=ny I' bv aN.fJ:=by
      rw[aK,bK.out];by_cases h:bS=H/\f % 2=1
      ·rw[Vs h] at ad |-
       subst ad;have h1:=aP.out;have h2:=aO.out;simp only[Ww,VU,VO] at h1 h2;rw[h1,h2]
      ·rw[Vo h] at ad |-
       subst ad;have h1:=aP.out;have h2:=aO.out;simp only[VU,VO] at h1 h2;rw[h1,h2]
     rw[hI,<-VM,<-hE] at hT;exact hT
 ·obtain rfl:f=nf:=fh
  have bh:¬ ((f:Int)<((zn p).length:Int)):=by rw[ax.out];omega
  have az:=Ty.up _ HX.out ay
  have c7:es=aM:=by
   have h:=bk.out;rw[Ws] at h;simpa[ry] using h
  subst c7;go_upto_region 16 with(go_at_call 106;refine(zb4 az fh).mono ?_;rintro e W1 ⟨B1,d1,T1,rfl,b2,b5,al⟩);have a5:=HW.out.more al;have am:=ay.trans al;have b3:=pL.AY HV a5;have aX:=pL.AV HV a5;have bX:=a5.vE.read;obtain⟨y0,y1,y2,yf,yl⟩:=kL a5.bx;clear b2 b5 az;go_wp2_with(go_at_call 41;(with_reducible refine(QX (Ty.read _ b3) (Ty.read _ aX) bX a5.len (by have:=ah.out;omega)).mono ?_);rw[aQ.out];rintro e W2 ⟨rfl,a7⟩;have y0:=za a7 y0;have y1:=za a7 y1;have y2:=za a7 y2;obtain⟨z0,z1,z2,zf,zl⟩:=kL (zj a8.out (am.trans a7)));have cn:=bH.out;have co:=bJ.out;have cA:=aw.out.size;have bR:=zj a8.out (am.trans a7);have cx:=(blt a8.out)
  obtain⟨e9,o9⟩:=vA bR (J (F ⟨l,0,I⟩) 2 2) (J (F ⟨n,0,I⟩) 2 2) (J AE nE cE);have cc:=o9.fH (aw.out.trans (am.trans a7)) (fun b hb=>by simp only[Vi] at hb;omega);have c1:=(jS.sl 103).iA ((jS.sl 103).jG b3 a7) (fun b hb=>o9.block b (Vn ((jS.sl 103).jQ b3 b hb) a7.size) (by have:=(HV.si b hb).1;simp only[Vi];omega));have bW:=(zv.sl 3).iA ((zv.sl 3).jG aX a7) (fun b hb=>o9.block b (Vn ((zv.sl 3).jQ aX b hb) a7.size) (by have:=HV.sn.1;rw[Vi.1 hb];simp only[Vi];omega));have cr:=aI.size;have bY:=(a5.vE.fH a7).gu o9 (fun b hb hm=>by simp only[Vi] at hm;have:=a5.lo b hb;omega);obtain⟨r0,r1,r2,_,_⟩:=kL e9;obtain rfl:=a5.len;refine Vr (v:=.tuple #[.agg #[J (F ⟨l,0,I⟩) 2 2,J (F ⟨n,0,I⟩) 2 2,J AE es.length cE],X H]) (by simp[VF,results70,go_sem,r0,r1,r2]) rfl ?_
  exact⟨_,_,_,_,_,_,_,rfl,PP (x:=⟨[i0,i1],[b0,b1],es⟩) _ _ _ _ _ _ _ _ _ c1 bW bY.1,fun b hb=>by
   rcases VA.1 hb with hb | hb
   ·rcases VA.1 hb with hb | hb
    ·have:=(HV.si b hb).1;omega
    ·have:=HV.sn.1;rw[Vi.1 hb];omega
   ·have:=a5.lo b hb;omega,cc⟩
end Go.Proofs.YthgbglbaemelhaaGreat
