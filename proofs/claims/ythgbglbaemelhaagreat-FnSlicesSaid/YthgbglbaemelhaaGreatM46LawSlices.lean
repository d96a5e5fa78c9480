/-
  PART.
-/
import Derived.Test.YthgbglbaemelhaaGreatM37LawSlices
import Derived.Test.YthgbglbaemelhaaGreatM45LawSlices
set_option linter.unusedVariables false
set_option linter.unusedSimpArgs false
set_option maxRecDepth 100000
set_option maxHeartbeats 8000000
namespace Go.Proofs.YthgbglbaemelhaaGreat
open Value renaming slice->G,int->J,bool->H,string->V
open IntKind renaming i64->C,wrap->QP
open Option renaming none->D,some->Z
open Obj renaming cells->F
open Bool renaming false->I,true->M
open Go renaming World->U,results->Rd,Calls->Rh,Addr->Ri,yielded->Su
open World renaming cell?->QL
open RowKit renaming intOf->Ry
open _root_.Nat renaming add_zero->RK
open Region renaming wanted->Rx,ready->RL,noSelect->Tn,Mode->Ts,free->Ui
open Tryz
open Go.RowKit
variable {a n pos z0 z1:Nat}{id:Int}{s:N}{syms:Q fC}{w:U}
def iT (p:gE × Bool)(w:U)(e:Ending)(w':U):Prop:=∃ A0 c0 A1 c1 A2 c2 A3 c3,e=.returned (.tuple #[.agg #[J C p.1.Id,G A0 p.1.fm.length c0,G A1 p.1.fY.length c1,G A2 p.1.Rows.length c2,G A3 p.1.fI.length c3],H p.2])/\
 fU me w w' [J C p.1.Id,G A0 p.1.fm.length c0,G A1 p.1.fY.length c1,G A2 p.1.Rows.length c2,G A3 p.1.fI.length c3] p.1/\ft w w'
theorem iT.no {p:gE × Bool} {w':U} (h:p=(vQ,I))(hg:ft w w'):iT p w (.returned (.tuple #[.agg #[J C 0,G D 0 0,G D 0 0,G D 0 0,G D 0 0],H I])) w':=by
 subst h;exact⟨D,0,D,0,D,0,D,0,rfl,Eh _ _,hg⟩
def r9 (s:N)(id:Int)(n pos:Nat):X gE:=match lW s n pos [] with
 | some (syms,a)=>match mZ s 3 a [] with
  | some (ps,_)=>IA id syms ps
  | none=>D
 | none=>D
theorem PS {id:Nat} (h0:iE s 0=(id,z0,M))(h1:iE s (z0:Int)=(n,z1,M)):yr s=r9 s id n (z0+z1):=by
 unfold yr;rw[h0];simp only;rw[h1];simp only[and_self,Tk];rfl
theorem EO (h:yr s=D):qz s=(vQ,I):=by unfold qz;rw[h]
theorem KH {id:Nat} {ok0 ok1:Bool} (h0:iE s 0=(id,z0,ok0))(h1:iE s (z0:Int)=(n,z1,ok1))(h:¬ (ok0=M/\ok1=M)):qz s=(vQ,I):=by
 refine EO ?_;unfold yr;rw[h0];simp only;rw[h1];exact QZ h
theorem Mr (h:lW s n pos []=D):r9 s id n pos=D:=by unfold r9;rw[h]
theorem Ms (h:lW s n pos []=Z (syms,a))(h2:mZ s 3 a []=D):r9 s id n pos=D:=by unfold r9;rw[h];simp only;rw[h2]
theorem Mt {b:Nat} {p0 p1 p2:N} (h:lW s n pos []=Z (syms,a))(h2:mZ s 3 a []=Z ([p0,p1,p2],b)):r9 s id n pos=if (oE p0).2=M/\(oL p1).2=M/\(mV p2).2=M then Z ⟨id,syms,(oE p0).1,(oL p1).1,(mV p2).1⟩ else D:=by
 unfold r9;rw[h];simp only;rw[h2];rfl
theorem P8 {α:Type} {l:Q α} (h:l.length=3):∃ x y z,l = [x,y,z]:=by
 match l,h with
 | [x,y,z],_=>exact⟨_,_,_,rfl⟩
theorem Om {B:Nat} {e:TypeId} {A:X Ri} {c:Nat} {xs:Q N} (h:(iH.sl e).R w B [G A n c] xs)(h0:0<xs.length):∃ g off,A=Z ⟨g,off,D⟩/\g<B/\∀(i:Nat)(x:N),xs[i]?=Z x->QL w ⟨g,off+i,D⟩=Z (V x):=by
 obtain⟨A',c',h1,_,_,_,h5⟩:=h;injection h1 with h1 _
 injection h1 with hA _ _
 subst hA;obtain⟨g,off,rfl,hg,h6⟩:=h5 h0;refine⟨g,off,rfl,hg,fun i x hx=>?_⟩;obtain⟨ec,hR,hc⟩:=h6 i x hx;obtain⟨rfl,h7⟩:=hR;have:=hc 0 _ rfl;simpa only[show iH.size=1 from rfl,Tq,RK] using this
theorem GC {sy:Q fC} {ru:Q gJ} {ro:Q ir} {il:Q fQ} {A0 A1 A2 A3:X Ri} {c0 c1 c2 c3:Nat} (h0:(ji.sl 137).R w w.heap.size [G A0 sy.length c0] sy)(h1:(kH.sl 205).R w w.heap.size [G A1 ru.length c1] ru)
  (h2:(ly.sl 216).R w w.heap.size [G A2 ro.length c2] ro) (h3:(kE.sl 214).R w w.heap.size [G A3 il.length c3] il) (hi:fD id) (hb:qJ ⟨id,sy,ru,ro,il⟩) :
  Rh prog 74 #[.agg #[J C id,G A0 sy.length c0,G A1 ru.length c1,G A2 ro.length c2,G A3 il.length c3]] w fun e w'=>e=.returned (V (mI ⟨id,sy,ru,ro,il⟩))/\ft w w':=zoE (d:=⟨id,sy,ru,ro,il⟩) h0 h1 h2 h3 hi hb
theorem wj {g:Prop} (f:g:=by
  go_wp2_with(first
   | (go_at_call 109;(with_reducible refine(zfD s (pos:Int) _ hs2 hpI).mono ?_);rw[HU1.out];rintro e v3 ⟨rfl,hG3⟩)
   | (go_at_call 110;(with_reducible refine(zda s ((pos:Int)+(m:Int)) _ hs2 hpmI).mono ?_);rw[HU2.out];rintro e v4 ⟨A6,c6,rfl,hF4,hG4⟩;have hG34:ft wr v4:=(ft.trans gF hG3).trans (ft.trans gF hG4);have r2:=zj r2 hG34;have r4:=zj r4 hG34;have hbx:=zj hbx hG34;obtain⟨a0,a1,a2,a3,a4,af,al⟩:=iY r2;obtain⟨b0,b1,b2,b3,b4,bf,bl⟩:=iY r4;obtain⟨x0,x1,x2,x3,x4,xf,xl⟩:=iY hbx))
  have hs5:=sX r2 (J C 0) (G D 0 0) (G D 0 0) (G D 0 0) (G D 0 0)
  obtain⟨q0,q1,q2,q3,q4,_,_⟩:=iY hs5.1
  exact QU (v:=.tuple #[.agg #[J C 0,G D 0 0,G D 0 0,G D 0 0,G D 0 0],H I]) (by simp[Rd,results73,go_sem,q0,q1,q2,q3,q4]) rfl (iT.no (HB.out) (hs5.2.fx (hG.out.trans hG34) (by simp only[QN];rintro b rfl;exact hw2)))):g:=f
theorem rH {g:Prop} (f:g:=by
  have hs5:=sX r2 (J C 0) (G D 0 0) (G D 0 0) (G D 0 0) (G D 0 0)
  obtain⟨q0,q1,q2,q3,q4,_,_⟩:=iY hs5.1
  exact QU (v:=.tuple #[.agg #[J C 0,G D 0 0,G D 0 0,G D 0 0,G D 0 0],H I]) (by simp[Rd,results73,go_sem,q0,q1,q2,q3,q4]) rfl (iT.no (HB.out) (hs5.2.fx (hGV) (by simp only[QN];rintro b rfl;exact hw2)))):g:=f
theorem zot (s:N)(w:U)(hs:s.size<=4194304):Rh prog 73 #[V s] w (iT (qz s) w):=by
 have hs2:s.size<=1099511627776:=by omega
 have b5:fD 0:=⟨by omega,by omega⟩
 obtain⟨id,z0,aU,ak⟩:∃ n z ok,iE s 0=(n,z,ok):=⟨_,_,_,rfl⟩
 have cu:z0<=s.size:=by
  cases aU
  ·have:=(tj ak).2;omega
  ·have:=qu ak;omega
 have aC:fD (z0:Int):=⟨by omega,by omega⟩
 obtain⟨n,z1,aV,am⟩:∃ n z ok,iE s (z0:Int)=(n,z,ok):=⟨_,_,_,rfl⟩
 have bA:z0+z1<=s.size:=by
  cases aV
  ·have:=(tj am).2;omega
  ·have:=qu am;omega
 have bW:id<=1099511627775:=by
  cases aU
  ·have:=(tj ak).1;omega
  ·exact(qu ak).2.2.2.2
 have cp:n<=1099511627775:=by
  cases aV
  ·have:=(tj am).1;omega
  ·exact(qu am).2.2.2.2
 have aX:=fh ak;have aY:=fh am;have cc:QP C ((z0:Int)+(z1:Int))=(z0:Int)+(z1:Int):=iw;go_enter func73,ntmps73;go_upto_region 2 with(fail);have r2:=zj (QO w (F #[J C 0,G D 0 0,G D 0 0,G D 0 0,G D 0 0] 108)) (show ft _ ((w.alloc (F #[J C 0,G D 0 0,G D 0 0,G D 0 0,G D 0 0] 108)).alloc (F #[J C 0,G D 0 0,G D 0 0,G D 0 0,G D 0 0] 108)) from gG);have r4:=QO (w.alloc (F #[J C 0,G D 0 0,G D 0 0,G D 0 0,G D 0 0] 108)) (F #[J C 0,G D 0 0,G D 0 0,G D 0 0,G D 0 0] 108);have aT:ft w ((w.alloc (F #[J C 0,G D 0 0,G D 0 0,G D 0 0,G D 0 0] 108)).alloc (F #[J C 0,G D 0 0,G D 0 0,G D 0 0,G D 0 0] 108)):=gG;rw[Rf] at r4;obtain⟨g2,bb⟩:∃ g,w.heap.size=g:=⟨_,rfl⟩
 have hw2:w.heap.size<=g2:=by omega
 rw[bb] at r2 r4 |-;have ck:=fh bb;clear bb;generalize ((w.alloc _).alloc _)=Y at r2 r4 aT |-;obtain⟨g4,bv⟩:∃ g,g2+1=g:=⟨_,rfl⟩
 rw[bv] at r4 |-;have cl:g2<g4:=by omega
 clear bv;by_cases hgood:aU=M/\aV=M
 case neg=>
  have HN:=fh (KH ak am hgood);clear ak am;cases aU
  ·go_wp2_with(first
    | (go_at_call 108;(with_reducible refine(zdl s 0 _ hs2 b5).mono ?_);rw[aX.out];rintro e v1 ⟨rfl,aF⟩)
    | (go_at_call 108;(with_reducible refine(zdl s (z0:Int) _ hs2 aC).mono ?_);rw[aY.out];rintro e v2 ⟨rfl,aG⟩;have a6:=aF.trans (ft.trans (gF:ft v1 _) aG);have r2:=zj r2 a6;have r4:=zj r4 a6;obtain⟨a0,a1,a2,a3,a4,af,al⟩:=iY r2;obtain⟨b0,b1,b2,b3,b4,bf,bl⟩:=iY r4))
   have hs5:=sX r2 (J C 0) (G D 0 0) (G D 0 0) (G D 0 0) (G D 0 0)
   obtain⟨q0,q1,q2,q3,q4,_,_⟩:=iY hs5.1
   exact QU (v:=.tuple #[.agg #[J C 0,G D 0 0,G D 0 0,G D 0 0,G D 0 0],H I]) (by simp[Rd,results73,go_sem,q0,q1,q2,q3,q4]) rfl (iT.no (HN.out) (hs5.2.fx (aT.trans a6) (by simp only[QN];rintro b rfl;exact hw2)))
  ·cases aV
   ·go_wp2_with(first
     | (go_at_call 108;(with_reducible refine(zdl s 0 _ hs2 b5).mono ?_);rw[aX.out];rintro e v1 ⟨rfl,aF⟩)
     | (go_at_call 108;(with_reducible refine(zdl s (z0:Int) _ hs2 aC).mono ?_);rw[aY.out];rintro e v2 ⟨rfl,aG⟩;have a6:=aF.trans (ft.trans (gF:ft v1 _) aG);have r2:=zj r2 a6;have r4:=zj r4 a6;obtain⟨a0,a1,a2,a3,a4,af,al⟩:=iY r2;obtain⟨b0,b1,b2,b3,b4,bf,bl⟩:=iY r4))
    have hs5:=sX r2 (J C 0) (G D 0 0) (G D 0 0) (G D 0 0) (G D 0 0)
    obtain⟨q0,q1,q2,q3,q4,_,_⟩:=iY hs5.1
    exact QU (v:=.tuple #[.agg #[J C 0,G D 0 0,G D 0 0,G D 0 0,G D 0 0],H I]) (by simp[Rd,results73,go_sem,q0,q1,q2,q3,q4]) rfl (iT.no (HN.out) (hs5.2.fx (aT.trans a6) (by simp only[QN];rintro b rfl;exact hw2)))
   ·exact absurd ⟨rfl,rfl⟩ hgood
 obtain⟨rfl,rfl⟩:=hgood;have aB:=PS ak am;have HN:=fh (fun(h:r9 s id n (z0+z1)=D)=>EO (aB.trans h));have HY:=fh (fun(d:gE) (h:r9 s id n (z0+z1)=Z d)=>(show qz s=if mI d=s then (d,M) else (vQ,I) from by unfold qz;rw[aB.trans h]));clear ak am aB
 go_wp2_with(first
  | (go_at_call 108;(with_reducible refine(zdl s 0 _ hs2 b5).mono ?_);rw[aX.out];rintro e v1 ⟨rfl,aF⟩)
  | (go_at_call 108;(with_reducible refine(zdl s (z0:Int) _ hs2 aC).mono ?_);rw[aY.out];rintro e v2 ⟨rfl,aG⟩;have a6:=aF.trans (ft.trans (gF:ft v1 _) aG);have r2:=zj r2 a6;have r4:=zj r4 a6;obtain⟨a0,a1,a2,a3,a4,af,al⟩:=iY r2;obtain⟨b0,b1,b2,b3,b4,bf,bl⟩:=iY r4))
 have eD:=QO v2 (F #[J C (id:Int),G D 0 0,G D 0 0,G D 0 0,G D 0 0] 108);have be:ft v2 (v2.alloc (F #[J C (id:Int),G D 0 0,G D 0 0,G D 0 0,G D 0 0] 108)):=gG;have bg:g4<v2.heap.size:=bl;obtain⟨gd,bw⟩:∃ g,v2.heap.size=g:=⟨_,rfl⟩
 rw[bw] at eD bg |-;clear bw;have r2:=zj r2 be;have r4:=zj r4 be;have az:=(aT.trans a6).trans be;generalize (v2.alloc _)=Y1 at eD r2 r4 az |-;clear a0 a1 a2 a3 a4 af al b0 b1 b2 b3 b4 bf bl;go_loopw [6,12] (fun p q wr=>∃(k pos:Nat) (a5:Q fC) (A5:X Ri) (c5:Nat) (S:Q Nat),p=J C (pos:Int)/\q=J C (k:Int)/\k<=n/\pos<=s.size/\a5.length<=pos/\Hid (lW s (n-k) pos a5=lW s n (z0+z1) [])/\Hid (ft w wr)/\wr.heap[g2]?=Z (F #[J C 0,G D 0 0,G D 0 0,G D 0 0,G D 0 0] 108 (0,0))/\wr.heap[g4]?=Z (F #[J C 0,G D 0 0,G D 0 0,G D 0 0,G D 0 0] 108 (0,0))/\wr.heap[gd]?=Z (F #[J C (id:Int),G A5 a5.length c5,G D 0 0,G D 0 0,G D 0 0] 108 (0,0))/\Hid (Has (ji.sl 137) wr [G A5 a5.length c5] a5 S)/\Hid (∀ b∈S,gd<b)) (fun _ q _=>n-(Ry q).toNat)
 case atStart=>exact⟨0,z0+z1,[],D,0,[],by go_num,rfl,QX _,bA,QX _,fh rfl,fh az,r2,r4,eD,fh (Has.nil ji 137 Y1),fh (fun b hb=>by cases hb)⟩
 clear eD r2 r4 az;obtain⟨k,pos,a5,A5,c5,S,rfl,rfl,hk,aM,cm,HT,hG,r2,r4,hbx,hH,hS⟩:=hrel;by_cases hlt:k<n
 ·have bX:(k:Int)<(n:Int):=by omega
  obtain⟨r,hr⟩:∃ r,n-k=r+1:=⟨n-k-1,by omega⟩
  have hT:=HT.out;rw[hr] at hT;have hpI:fD (pos:Int):=⟨by omega,by omega⟩
  obtain⟨t,m,aD,a8⟩:∃ t m ok,jB s (pos:Int)=(t,m,ok):=⟨_,_,_,rfl⟩
  have bZ:pos+m<=s.size/\t.size<=s.size:=by
   cases aD
   ·obtain⟨e1,e2⟩:=Hw a8;subst e1;exact⟨by omega,QX _⟩
   ·have:=tB a8;omega
  have c0:QP C ((pos:Int)+(m:Int))=(pos:Int)+(m:Int):=iw;have hpmI:fD ((pos:Int)+(m:Int)):=⟨by omega,by omega⟩
  obtain⟨l,q2,aE,au⟩:∃ l q ok,iP s (pos+m:Nat)=(l,q,ok):=⟨_,_,_,rfl⟩
  have c4:pos+m+q2<=s.size:=by
   cases aE
   ·have:=(AR au).2;omega
   ·exact(tA au).2.1
  have HU1:=fh a8;have HU2:Hid (iP s ((pos:Int)+(m:Int))=(l,q2,aE)):=fh (by rw[<-au];congr 1);have cd:QP C ((k:Int)+1)=(k:Int)+1:=iw;have cs:QP C ((pos:Int)+(m:Int)+(q2:Int))=(pos:Int)+(m:Int)+(q2:Int):=iw;by_cases hgood:aD=M/\aE=M/\l.length=2
  case neg=>
   have aq:lW s (r+1) pos a5=D:=by
    cases aD
    ·exact FD a8
    ·cases aE
     ·exact FE a8 au
     ·exact FF a8 au (fun h=>hgood ⟨rfl,rfl,h⟩)
   have HB:=fh (HN.out (Mr (by rw[<-hT];exact aq)))
   have aL:aD=M->aE=M->((l.length:Int) != 2)=M:=fun h1 h2=>by
    simp only[bne_iff_ne];intro h;exact hgood ⟨h1,h2,by omega⟩
   clear aq hT a8 au hgood hr;cases aD
   ·clear aL
    exact wj
   ·cases aE
    ·clear aL
     exact wj
    ·have bx:=aL rfl rfl
     clear aL;exact wj
  obtain⟨rfl,rfl,h2⟩:=hgood;obtain⟨y0,y1,rfl⟩:=two h2;have bF:Hid (lW s (n-(k+1)) (pos+m+q2) (a5++[⟨t,y0,y1⟩])=lW s n (z0+z1) []):=fh (by rw[show n-(k+1)=r by omega,<-hT,Gg a8 au]);have co:=(tB a8).1;have aL:((([y0,y1]:Q Int).length:Int) != 2)=I:=rfl;clear a8 au hr hT
  go_wp2_with(first
   | (go_at_call 109;(with_reducible refine(zfD s (pos:Int) _ hs2 hpI).mono ?_);rw[HU1.out];rintro e v3 ⟨rfl,hG3⟩)
   | (go_at_call 110;(with_reducible refine(zda s ((pos:Int)+(m:Int)) _ hs2 hpmI).mono ?_);rw[HU2.out];rintro e v4 ⟨A6,c6,rfl,hF4,hG4⟩;have hG34:ft wr v4:=(ft.trans gF hG3).trans (ft.trans gF hG4);have r2:=zj r2 hG34;have r4:=zj r4 hG34;have hbx:=zj hbx hG34;obtain⟨a0,a1,a2,a3,a4,af,al⟩:=iY r2;obtain⟨b0,b1,b2,b3,b4,bf,bl⟩:=iY r4;obtain⟨x0,x1,x2,x3,x4,xf,xl⟩:=iY hbx))
  obtain⟨g6,o6,bL,bU,ae⟩:=Ag hF4.read (by simp);subst bL;have bn:=(ae 0 y0 rfl).1;have bK:=(ae 1 y1 rfl).1;rw[RK] at bn;have bI:=(ae 0 y0 rfl).2;have bJ:=(ae 1 y1 rfl).2;have ar:t.size<=9223372036854775807:=by omega
  have bQ:=hH.out.fx hG34;have ce:=hH.out.lt
  have bT:wr.heap.size<=g6:=by
   obtain⟨S2,s1,s2⟩:=hF4.has;exact Rj (Rj (ft.size (ft.trans gF hG3)) (ft.size gF)) (s2 g6 (FY s1))
  have aJ:g6∉S:=fun hm=>by have h6:=ce g6 hm;omega
  have aK:gd∉S:=fun hm=>by have h6:=hS.out gd hm;omega
  clear ae;go_upto_region 15 with(fail);refine jT (fun w'=>QL w' ⟨gd,1,D⟩=Z (G A5 a5.length c5)/\QL w' ⟨g6,o6,D⟩=Z (J C y0)/\QL w' ⟨g6,o6+1,D⟩=Z (J C y1)) 13 (by kernel_rfl) (by((repeat' apply QQ) <;> ((repeat (first | with_reducible assumption | with_reducible refine zd ?_ _ _ | with_reducible refine zk ?_ _ | with_reducible refine zc ?_ | with_reducible refine zV ?_ _));done))) (fun hH=>?_);refine .tq 0 [13] hH ?_;refine .tq 1 [13] hH ?_;refine .tq 2 [13] hH ?_;refine .tq 3 [13] hH ?_;refine .tq 4 [13] hH ?_;refine .tq 5 [13] hH ?_;refine .tq 6 [13] hH ?_;refine .tq 7 [13] hH ?_;refine .tq 8 [13] hH ?_;refine .tq 9 [13] hH ?_;refine fA.one (i:=10) (by kernel_rfl) rfl (fun K hK=>?_);go_simp;refine hK.out _ _ (by((repeat' apply QQ) <;> ((repeat (first | with_reducible assumption | with_reducible refine zd ?_ _ _ | with_reducible refine zk ?_ _ | with_reducible refine zc ?_ | with_reducible refine zV ?_ _));done))) (fun hH10=>?_);clear hK hH
  try simp only[lay]
  refine fA.one (i:=11) (by kernel_rfl) rfl (fun K hK=>?_);(refine zW (L:=a5.length+1) rfl (.tmp 90) (.tmp 99) Az yS (bQ.fx gF) (W1:=w) (B:=0) (ec:=[V t,J C y0,J C y1]) (y:=(⟨t,y0,y1⟩:fC)) (EH (x:=⟨t,y0,y1⟩) ar bI bJ) rfl rfl rfl (by intro j u hu;simpa[go_sem] using hu) rfl (by omega) (by omega) ?_;intro A8 c8 W8 S8 ag aN aR;have u1:=zz x1 gF ag aK;have u2:=zz bn gF ag aJ;have u3:=zz bK gF ag aJ;have b9:=(ag.block gd (QS xl (ft.size gF)) aK).trans (zj hbx gF);obtain⟨f0,f1,f2,f3,f4,ff,fl⟩:=iY b9);refine hK.out _ _ (by((repeat' apply QQ) <;> ((repeat (first | with_reducible assumption | with_reducible refine zd ?_ _ _ | with_reducible refine zk ?_ _ | with_reducible refine zc ?_ | with_reducible refine zV ?_ _));done))) (fun hH1011=>?_);clear hK hH10
  try simp only[lay]
  refine .tq 12 [13] hH1011 ?_;refine fA.last (by kernel_rfl) rfl (by kernel_rfl) (fun K hK=>?_);go_simp;refine hK.out _ _ ?_;clear hK
  try simp only[lay]
  have bt:(W8.setCell ⟨gd,1,D⟩ (G A8 (a5.length+1) c8)).heap[gd]?=Z (F #[J C (id:Int),G A8 (a5.length+1) c8,G D 0 0,G D 0 0,G D 0 0] 108 (0,0)):=jb b9 rfl;have ac:fw [gd] W8 (W8.setCell ⟨gd,1,D⟩ (G A8 (a5.length+1) c8)):=(fw.refl _ _).setCell (p:=⟨gd,1,D⟩) (by simp) _;generalize (W8.setCell _ _)=W9 at bt ac |-;have bc:g2∉S:=fun hm=>by have h6:=hS.out g2 hm;omega
  have bd:g4∉S:=fun hm=>by have h6:=hS.out g4 hm;omega
  have bx:g2<W8.heap.size:=by omega
  have bY:g4<W8.heap.size:=by omega
  have cf:=(ac.block g2 bx (by simp only[QN];omega)).trans ((ag.block g2 (QS al (ft.size gF)) bc).trans (zj r2 gF));have cg:=(ac.block g4 bY (by simp only[QN];omega)).trans ((ag.block g4 (QS bl (ft.size gF)) bd).trans (zj r4 gF));have aH:∀ b∈S8,gd<b:=fun b hb=>(aR b hb).elim (hS.out b) (fun h=>QS (QS xl (ft.size gF)) h);have bR:=Has.fJ aN ac (fun b hb hm=>by simp only[QN] at hm;have:=aH b hb;omega);have ab:ft w W9:=ac.fx (ag.fx ((hG.out.trans hG34).trans gF) (fun b hb=>by have:=hS.out b hb;omega)) (by simp only[QN];rintro b rfl;omega);clear r2 r4 hbx b9 ag ac aN aR;go_wp2_with(fail);go_roundw;exact⟨k+1,pos+m+q2,a5++[⟨t,y0,y1⟩],A8,c8,S8,by go_num,by go_num,by omega,c4,by simp;omega,bF,fh ab,cf,cg,by simpa using bt,fh (by simpa using bR),fh aH⟩;exact gH
 ·obtain rfl:k=n:=by omega
  have bX:¬ ((k:Int)<(k:Int)):=by omega
  have aa:lW s k (z0+z1) []=Z (a5,pos):=by rw[<-HT.out,RP];rfl
  have bz:=(FC k (z0+z1) [] a5 pos bA aa).2.2;have ca:lN a5<=54525952:=by simp only[lN,List.map_nil,List.sum_nil] at bz |-;omega
  have bB:=fh (fun(h:mZ s 3 pos []=D)=>HN.out (Ms aa h));have bH:=fh (fun(p0 p1 p2:N) (b:Nat) (h:mZ s 3 pos []=Z ([p0,p1,p2],b))=>(show r9 s id k (z0+z1)=_ from Mt (id:=(id:Int)) aa h));clear aa bz;go_upto_region 17 with(fail);go_wp2_with(fail);go_loopw [6,19,20] (fun p u q wq=>∃(j p2:Nat) (ps:Q N) (A7:X Ri) (c7:Nat) (S7:Q Nat),p=J C (p2:Int)/\u=G A7 ps.length c7/\q=J C (j:Int)/\j<=3/\p2<=s.size/\ps.length<=3/\Hid (ps.length=j)/\Hid (mZ s (3-j) p2 ps=mZ s 3 pos [])/\Hid (ft wr wq)/\Hid (Has (iH.sl 9) wq [G A7 ps.length c7] ps S7)/\Hid (∀ b∈S7,wr.heap.size<=b)) (fun _ _ q _=>3-(Ry q).toNat)
  case atStart=>exact⟨0,pos,[],_,0,[wr.heap.size],rfl,rfl,rfl,by decide,aM,by decide,fh rfl,fh rfl,fh gF,fh (Has.emp iH (QO wr (F #[] 9))),fh (fun b hb=>by simp only[QN] at hb;omega)⟩
  obtain⟨j,p2,ps,A7,c7,S7,rfl,rfl,rfl,hj,cq,cr,aZ,bk,av,bp,bs⟩:=hrel;have bo:=hG.out.trans av.out;have bq:=hH.out.fx av.out;have r2:=zj r2 av.out;have r4:=zj r4 av.out;have hbx:=zj hbx av.out;by_cases hlt3:j<3
  ·have bi:(j:Int)<3:=by omega
   have hpI:fD (p2:Int):=⟨by omega,by omega⟩
   obtain⟨r,hr⟩:∃ r,3-j=r+1:=⟨3-j-1,by omega⟩
   have hT:=bk.out;rw[hr] at hT;obtain⟨t,m,aD,a8⟩:∃ t m ok,jB s (p2:Int)=(t,m,ok):=⟨_,_,_,rfl⟩
   have HU1:=fh a8;have cd:QP C ((j:Int)+1)=(j:Int)+1:=iw;have ct:wr=wr:=rfl;cases aD
   ·have HB:=fh (bB.out (by rw[<-hT];exact Hm a8))
    clear hT a8 hr;go_wp2_with(go_at_call 109;(with_reducible refine(zfD s (p2:Int) _ hs2 hpI).mono ?_);rw[HU1.out];rintro e v3 ⟨rfl,hG3⟩;have hG34:ft wr v3:=ft.trans gF hG3;have r2:=zj r2 hG34;have r4:=zj r4 hG34;have hbx:=zj hbx hG34;obtain⟨a0,a1,a2,a3,a4,af,al⟩:=iY r2;obtain⟨b0,b1,b2,b3,b4,bf,bl⟩:=iY r4;obtain⟨x0,x1,x2,x3,x4,xf,xl⟩:=iY hbx);have hs5:=sX r2 (J C 0) (G D 0 0) (G D 0 0) (G D 0 0) (G D 0 0);obtain⟨q0,q1,q2,q3,q4,_,_⟩:=iY hs5.1;exact QU (v:=.tuple #[.agg #[J C 0,G D 0 0,G D 0 0,G D 0 0,G D 0 0],H I]) (by simp[Rd,results73,go_sem,q0,q1,q2,q3,q4]) rfl (iT.no (HB.out) (hs5.2.fx (bo.trans hG34) (by simp only[QN];rintro b rfl;exact hw2)))
   ·have bZ:=tB a8
    have c0:QP C ((p2:Int)+(m:Int))=(p2:Int)+(m:Int):=iw;have bG:Hid (mZ s (3-(j+1)) (p2+m) (ps++[t])=mZ s 3 pos []):=fh (by rw[show 3-(j+1)=r by omega,<-hT,Hn a8]);have ar:t.size<=9223372036854775807:=by omega
    clear hT a8 hr
    go_wp2_with(first
     | (go_at_call 109;(with_reducible refine(zfD s (p2:Int) _ hs2 hpI).mono ?_);rw[HU1.out];rintro e v3 ⟨rfl,hG3⟩;have hG34:ft wr v3:=ft.trans gF hG3;have r2:=zj r2 hG34;have r4:=zj r4 hG34;have hbx:=zj hbx hG34;obtain⟨a0,a1,a2,a3,a4,af,al⟩:=iY r2;obtain⟨b0,b1,b2,b3,b4,bf,bl⟩:=iY r4;obtain⟨x0,x1,x2,x3,x4,xf,xl⟩:=iY hbx)
     | (refine zA (L:=ps.length+1) rfl (.tmp 122) (.tmp 124) sV lq ((bp.out.fx hG34).fx gF) (W1:=w) (B:=0) (ec:=[V t]) (y:=t) ⟨rfl,ar⟩ rfl rfl rfl (by intro j u hu;simpa[go_sem] using hu) rfl (by omega) (by omega) ?_;intro A8 c8 W8 S8 ag aN aR))
    go_roundw;exact⟨j+1,p2+m,ps++[t],A8,c8,S8,by go_num,by simp,by go_num,by omega,by omega,by simp;have:=aZ.out;omega,fh (by simp[aZ.out]),bG,fh (ag.fx ((av.out.trans hG34).trans gF) bs.out),fh (by simpa using aN),fh (fun b hb=>(aR b hb).elim (bs.out b) (fun h=>Rj ((av.out.trans hG34).trans gF).size h))⟩;exact gH
  ·obtain rfl:j=3:=by omega
   have bi:¬ ((3:Int)<3):=by omega
   obtain⟨t0,t1,t2,rfl⟩:=P8 aZ.out;have bj:mZ s 3 pos []=Z ([t0,t1,t2],p2):=by rw[<-bk.out];rfl
   have hY:=bH.out t0 t1 t2 p2 bj;have ar:=(Hd 3 pos [] _ p2 aM bj).2.2.2 (by simp);have cv:=ar t0 (by simp);have cw:=ar t1 (by simp);have cx:=ar t2 (by simp);obtain⟨R1,o1,aO⟩:∃ r o,oE t0=(r,o):=⟨_,_,rfl⟩
   obtain⟨R2,o2,aP⟩:∃ r o,oL t1=(r,o):=⟨_,_,rfl⟩
   obtain⟨R3,o3,aQ⟩:∃ r o,mV t2=(r,o):=⟨_,_,rfl⟩
   rw[aO,aP,aQ] at hY;simp only at hY;have l1:=Kh t0;have l2:=KL t1;have l3:=LR t2;rw[aO] at l1;rw[aP] at l2;rw[aQ] at l3;simp only at l1 l2 l3;have ch:t0.size<=4194304:=by omega
   have ci:t1.size<=4194304:=by omega
   have cj:t2.size<=4194304:=by omega
   have bC:=fh aO;have bD:=fh aP;have bE:=fh aQ;have bm:=fh hY;clear aO aP aQ hY bj ar;have ba:=hbx;obtain⟨gs,os,bM,cn,a9⟩:=Om bp.out.read (by simp);subst bM;have s0:=a9 0 t0 rfl;have s1:=a9 1 t1 rfl;have s2:=a9 2 t2 rfl;rw[RK] at s0;clear a9
   go_upto_region 32 with(first
    | (go_at_call 111;(with_reducible refine(zqk t0 _ ch).mono ?_);rw[bC.out];rintro e v5 ⟨B1,e1,Q1,rfl,b7,c1,bN⟩;have ah:ft wr v5:=ft.trans gF bN;have s1:=zG ah s1;have s2:=zG ah s2)
    | (go_at_call 112;(with_reducible refine(zsk t1 _ ci).mono ?_);rw[bD.out];rintro e v6 ⟨B2,e2,Q2,rfl,b8,c2,bO⟩;have ai:ft v5 v6:=ft.trans gF bO;have s2:=zG ai s2)
    | (go_at_call 113;(with_reducible refine(zt2 t2 _ cj).mono ?_);rw[bE.out];rintro e v7 ⟨B3,e3,Q3,rfl,br,c3,bP⟩;have aj:ft v6 v7:=ft.trans gF bP;have ad:ft wr v7:=(ah.trans ai).trans aj;have r2:=zj r2 ad;have r4:=zj r4 ad;have hbx:=zj hbx ad;obtain⟨a0,a1,a2,a3,a4,af,al⟩:=iY r2;obtain⟨b0,b1,b2,b3,b4,bf,bl⟩:=iY r4;obtain⟨x0,x1,x2,x3,x4,xf,xl⟩:=iY hbx))
   have bV:=(blt ba)
   have aI:(((v7.setCell ⟨gd,2,D⟩ (G B1 R1.length e1)).setCell ⟨gd,3,D⟩ (G B2 R2.length e2)).setCell ⟨gd,4,D⟩ (G B3 R3.length e3)).heap[gd]?=Z (F #[J C (id:Int),G A5 a5.length c5,G B1 R1.length e1,G B2 R2.length e2,G B3 R3.length e3] 108 (0,0)):=
    jb (cur:=#[J C (id:Int),G A5 a5.length c5,G B1 R1.length e1,G B2 R2.length e2,G D 0 0]) (jb (cur:=#[J C (id:Int),G A5 a5.length c5,G B1 R1.length e1,G D 0 0,G D 0 0]) (jb hbx rfl) rfl) rfl
   have a7:fw [gd] v7 (((v7.setCell ⟨gd,2,D⟩ (G B1 R1.length e1)).setCell ⟨gd,3,D⟩ (G B2 R2.length e2)).setCell ⟨gd,4,D⟩ (G B3 R3.length e3)):=(((fw.refl _ _).setCell (p:=⟨gd,2,D⟩) (by simp) _).setCell (p:=⟨gd,3,D⟩) (by simp) _).setCell (p:=⟨gd,4,D⟩) (by simp) _;generalize (((v7.setCell _ _).setCell _ _).setCell _ _)=QH at aI a7 |-;have bh:w.heap.size<=gd:=by omega
   have r2:=(a7.block g2 al (by simp only[QN];omega)).trans r2;have r4:=(a7.block g4 bl (by simp only[QN];omega)).trans r4;have hGV:ft w QH:=a7.fx (bo.trans ad) (by simp only[QN];rintro b rfl;exact bh);have an:∀ b∈Q1,wr.heap.size<=b:=c1;have ao:∀ b∈Q2,v5.heap.size<=b:=c2;have ap:∀ b∈Q3,v6.heap.size<=b:=c3;have m5:=ah.size;have m6:=ai.size;have m7:=aj.size;have n0:=bq.lt;have n1:=b7.lt;have n2:=b8.lt;have b6:=(bq.fx ad).fJ a7 (fun b hb hm=>by simp only[QN] at hm;have:=hS.out b hb;omega);have aw:=(b7.fx (ai.trans aj)).fJ a7 (fun b hb hm=>by simp only[QN] at hm;have:=an b hb;omega);have ax:=(b8.fx aj).fJ a7 (fun b hb hm=>by simp only[QN] at hm;have:=ao b hb;omega);have ay:=br.fJ a7 (fun b hb hm=>by simp only[QN] at hm;have:=ap b hb;omega);clear x0 x1 x2 x3 x4 xf xl a0 a1 a2 a3 a4 af al b0 b1 b2 b3 b4 bf bl b7 b8 br;obtain⟨a0,a1,a2,a3,a4,af,al⟩:=iY r2;obtain⟨b0,b1,b2,b3,b4,bf,bl⟩:=iY r4;obtain⟨x0,x1,x2,x3,x4,xf,xl⟩:=iY aI;by_cases hoo:o1=M/\o2=M/\o3=M
   case neg=>
    have HB:=fh (HN.out (bm.out.trans (QZ hoo)));cases o1
    ·go_wp2_with(fail)
     exact rH
    ·cases o2
     ·go_wp2_with(fail)
      exact rH
     ·cases o3
      ·go_wp2_with(fail)
       exact rH
      ·exact absurd ⟨rfl,rfl,rfl⟩ hoo
   obtain⟨rfl,rfl,rfl⟩:=hoo;have aA:fD (id:Int):=⟨by omega,by omega⟩
   have bu:qJ ⟨(id:Int),a5,R1,R2,R3⟩:=⟨by simp only;omega,by simp only;omega,by simp only;omega,by simp only;omega⟩
   have aS:=HY.out _ (bm.out.trans (Q5 ⟨rfl,rfl,rfl⟩));by_cases he:mI ⟨(id:Int),a5,R1,R2,R3⟩=s
   ·have HR:Hid (qz s=(⟨(id:Int),a5,R1,R2,R3⟩,M)):=fh (by rw[aS,Q5 he])
    have aW:=fh he;have bS:(s.toList != s.toList)=I:=by rw[bne,lp,QY rfl];rfl
    clear he aS;go_wp2_with(go_at_call 74;(with_reducible refine(GC b6.read aw.read ax.read ay.read aA bu).mono ?_);rw[aW.out];rintro e v8 ⟨rfl,ab⟩;have r2:=zj r2 ab;have aI:=zj aI ab;obtain⟨a0,a1,a2,a3,a4,af,al⟩:=iY r2;obtain⟨x0,x1,x2,x3,x4,xf,xl⟩:=iY aI);have hs5:=sX r2 (J C (id:Int)) (G A5 a5.length c5) (G B1 R1.length e1) (G B2 R2.length e2) (G B3 R3.length e3);obtain⟨q0,q1,q2,q3,q4,_,_⟩:=iY hs5.1;have k0:=(b6.fx ab).fJ hs5.2 (fun b hb hm=>by simp only[QN] at hm;have:=hS.out b hb;omega);have k1:=(aw.fx ab).fJ hs5.2 (fun b hb hm=>by simp only[QN] at hm;have:=an b hb;omega);have k2:=(ax.fx ab).fJ hs5.2 (fun b hb hm=>by simp only[QN] at hm;have:=ao b hb;omega);have k3:=(ay.fx ab).fJ hs5.2 (fun b hb hm=>by simp only[QN] at hm;have:=ap b hb;omega);refine QU (v:=.tuple #[.agg #[J C (id:Int),G A5 a5.length c5,G B1 R1.length e1,G B2 R2.length e2,G B3 R3.length e3],H M]) (by simp[Rd,results73,go_sem,q0,q1,q2,q3,q4]) rfl ?_;rw[HR.out];refine⟨A5,c5,B1,e1,B2,e2,B3,e3,rfl,⟨S++Q1++Q2++Q3,Lv (x:=⟨(id:Int),a5,R1,R2,R3⟩) A5 c5 S B1 e1 Q1 B2 e2 Q2 B3 e3 Q3 aA k0.1 k1.1 k2.1 k3.1,?_,?_⟩,hs5.2.fx (hGV.trans ab) (by simp only[QN];rintro b rfl;exact hw2)⟩
    ·rw[Rs,Rs,Rs]
     refine⟨⟨⟨k0.2,k1.2,fun a ha b hb=>?_⟩,k2.2,fun a ha b hb=>?_⟩,k3.2,fun a ha b hb=>?_⟩
     ·have:=n0 a ha;have:=an b hb;omega
     ·have:=ao b hb
      rcases Q7.1 ha with h | h
      ·have:=n0 a h;omega
      ·have:=n1 a h;omega
     ·have:=ap b hb
      rcases Q7.1 ha with h | h
      ·rcases Q7.1 h with h | h
       ·have:=n0 a h;omega
       ·have:=n1 a h;omega
      ·have:=n2 a h;omega
    ·intro b hb
     rcases Q7.1 hb with h | h
     ·rcases Q7.1 h with h | h
      ·rcases Q7.1 h with h | h
       ·have:=hS.out b h;omega
       ·have:=an b h;omega
      ·have:=ao b h;omega
     ·have:=ap b h;omega
   ·have HR:Hid (qz s=(vQ,I)):=fh (by rw[aS,QZ he])
    obtain⟨E,hE⟩:∃ E,mI ⟨(id:Int),a5,R1,R2,R3⟩=E:=⟨_,rfl⟩
    have aW:=fh hE;rw[hE] at he;have bS:(E.toList == s.toList)=I:=by rw[lp,QT he]
    clear he hE aS;go_wp2_with(go_at_call 74;(with_reducible refine(GC b6.read aw.read ax.read ay.read aA bu).mono ?_);rw[aW.out];rintro e v8 ⟨rfl,ab⟩;have r2:=zj r2 ab;have r4:=zj r4 ab;obtain⟨a0,a1,a2,a3,a4,af,al⟩:=iY r2;obtain⟨b0,b1,b2,b3,b4,bf,bl⟩:=iY r4);have hs5:=sX r2 (J C 0) (G D 0 0) (G D 0 0) (G D 0 0) (G D 0 0);obtain⟨q0,q1,q2,q3,q4,_,_⟩:=iY hs5.1;exact QU (v:=.tuple #[.agg #[J C 0,G D 0 0,G D 0 0,G D 0 0,G D 0 0],H I]) (by simp[Rd,results73,go_sem,q0,q1,q2,q3,q4]) rfl (iT.no (HR.out) (hs5.2.fx (hGV.trans ab) (by simp only[QN];rintro b rfl;exact hw2)))
end Go.Proofs.YthgbglbaemelhaaGreat
