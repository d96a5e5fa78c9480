/-
  PART.
-/
import Derived.Test.YthgbglbaemelhaaGreatM19LawThreadsApart
import Derived.Test.YthgbglbaemelhaaGreatM27LawThreadsApart
set_option linter.unusedVariables false
set_option linter.unusedSimpArgs false
set_option maxRecDepth 100000
set_option maxHeartbeats 8000000
namespace Go.Proofs.YthgbglbaemelhaaGreat
open Value renaming slice->G,int->J,bool->H,string->V
open IntKind renaming i64->Z,wrap->Rg
open Option renaming none->C,some->D
open Obj renaming cells->F
open Bool renaming false->I,true->M
open Go renaming World->U,results->Rv,Calls->RD,Addr->RJ,TypeId->R5,yielded->Th
open World renaming cell?->Rb
open RowKit renaming intOf->RS
open _root_.Nat renaming add_zero->Sr
open Region renaming wanted->RV,ready->Sn,noSelect->TZ,Mode->Ub,free->Wu
open Tryz
open Go.RowKit
variable {a n pos z0 z1:Nat}{id:Int}{s:N}{WB:Q fC}{w:U}
def iW (p:gE × Bool)(w:U)(e:Ending)(w':U):Prop:=∃ A0 c0 A1 c1 A2 c2 A3 c3,e=.returned (.tuple #[.agg #[J Z p.1.Id,G A0 p.1.fm.length c0,G A1 p.1.fW.length c1,G A2 p.1.AC.length c2,G A3 p.1.fI.length c3],H p.2])/\
 fU mn w w' [J Z p.1.Id,G A0 p.1.fm.length c0,G A1 p.1.fW.length c1,G A2 p.1.AC.length c2,G A3 p.1.fI.length c3] p.1/\fu w w'
theorem iW.no {p:gE × Bool} {w':U} (h:p=(wG,I))(hg:fu w w'):iW p w (.returned (.tuple #[.agg #[J Z 0,G C 0 0,G C 0 0,G C 0 0,G C 0 0],H I])) w':=by
 subst h;exact⟨C,0,C,0,C,0,C,0,rfl,FA _ _,hg⟩
def sN (s:N)(id:Int)(n pos:Nat):X gE:=match mc s n pos [] with
 | some (WB,a)=>match nk s 3 a [] with
  | some (ps,_)=>Jc id WB ps
  | none=>C
 | none=>C
theorem Qy {id:Nat} (h0:iD s 0=(id,z0,M))(h1:iD s (z0:Int)=(n,z1,M)):yM s=sN s id n (z0+z1):=by
 unfold yM;rw[h0];simp only;rw[h1];simp only[and_self,TI];rfl
theorem EO (h:yM s=C):qO s=(wG,I):=by unfold qO;rw[h]
theorem KQ {id:Nat} {ok0 ok1:Bool} (h0:iD s 0=(id,z0,ok0))(h1:iD s (z0:Int)=(n,z1,ok1))(h:¬ (ok0=M/\ok1=M)):qO s=(wG,I):=by
 refine EO ?_;unfold yM;rw[h0];simp only;rw[h1];exact Ro h
theorem Nz (h:mc s n pos []=C):sN s id n pos=C:=by unfold sN;rw[h]
theorem NA (h:mc s n pos []=D (WB,a))(h2:nk s 3 a []=C):sN s id n pos=C:=by unfold sN;rw[h];simp only;rw[h2]
theorem NB {b:Nat} {p0 p1 p2:N} (h:mc s n pos []=D (WB,a))(h2:nk s 3 a []=D ([p0,p1,p2],b)):sN s id n pos=if (oQ p0).2=M/\(oV p1).2=M/\(nh p2).2=M then D ⟨id,WB,(oQ p0).1,(oV p1).1,(nh p2).1⟩ else C:=by
 unfold sN;rw[h];simp only;rw[h2];rfl
theorem Pz {α:Type} {l:Q α} (h:l.length=3):∃ x y z,l = [x,y,z]:=by
 match l,h with
 | [x,y,z],_=>exact⟨_,_,_,rfl⟩
theorem Pv {B:Nat} {e:R5} {A:X RJ} {c:Nat} {xs:Q N} (h:(iI.sl e).R w B [G A n c] xs)(h0:0<xs.length):∃ g off,A=D ⟨g,off,C⟩/\g<B/\∀(i:Nat)(x:N),xs[i]?=D x->Rb w ⟨g,off+i,C⟩=D (V x):=by
 obtain⟨A',c',h1,_,_,_,h5⟩:=h;injection h1 with h1 _
 injection h1 with hA _ _
 subst hA;obtain⟨g,off,rfl,hg,h6⟩:=h5 h0;refine⟨g,off,rfl,hg,fun i x hx=>?_⟩;obtain⟨ec,hR,hc⟩:=h6 i x hx;obtain⟨rfl,h7⟩:=hR;have:=hc 0 _ rfl;simpa only[show iI.size=1 from rfl,TO,Sr] using this
theorem G8 {sy:Q fC} {ru:Q gK} {ro:Q iu} {il:Q fQ} {A0 A1 A2 A3:X RJ} {c0 c1 c2 c3:Nat} (h0:(jm.sl 137).R w w.heap.size [G A0 sy.length c0] sy)(h1:(kK.sl 205).R w w.heap.size [G A1 ru.length c1] ru)
  (h2:(lE.sl 216).R w w.heap.size [G A2 ro.length c2] ro) (h3:(kE.sl 214).R w w.heap.size [G A3 il.length c3] il) (hi:fE id) (hb:qX ⟨id,sy,ru,ro,il⟩) :
  RD prog 74 #[.agg #[J Z id,G A0 sy.length c0,G A1 ru.length c1,G A2 ro.length c2,G A3 il.length c3]] w fun e w'=>e=.returned (V (mQ ⟨id,sy,ru,ro,il⟩))/\fu w w':=zoW (d:=⟨id,sy,ru,ro,il⟩) h0 h1 h2 h3 hi hb
theorem rT {g:Prop} (f:g:=by
  go_wp2_with(first
   | (go_at_call 109;(with_reducible refine(zfP s (pos:Int) _ hs2 hpI).mono ?_);rw[HU1.out];rintro e v3 ⟨rfl,hG3⟩)
   | (go_at_call 110;(with_reducible refine(zdm s ((pos:Int)+(m:Int)) _ hs2 hpmI).mono ?_);rw[HU2.out];rintro e v4 ⟨A6,c6,rfl,hF4,hG4⟩;have hG34:fu wr v4:=(fu.trans gF hG3).trans (fu.trans gF hG4);have r2:=zj r2 hG34;have r4:=zj r4 hG34;have hbx:=zj hbx hG34;obtain⟨a0,a1,a2,a3,a4,af,al⟩:=jg r2;obtain⟨b0,b1,b2,b3,b4,bf,bl⟩:=jg r4;obtain⟨x0,x1,x2,x3,x4,xf,xl⟩:=jg hbx))
  have hs5:=tK r2 (J Z 0) (G C 0 0) (G C 0 0) (G C 0 0) (G C 0 0)
  obtain⟨q0,q1,q2,q3,q4,_,_⟩:=jg hs5.1
  exact Rj (v:=.tuple #[.agg #[J Z 0,G C 0 0,G C 0 0,G C 0 0,G C 0 0],H I]) (by simp[Rv,results73,go_sem,q0,q1,q2,q3,q4]) rfl (iW.no (HB.out) (hs5.2.fy (hG.out.trans hG34) (by simp only[Rc];rintro b rfl;exact hw2)))):g:=f
theorem sj {g:Prop} (f:g:=by
  have hs5:=tK r2 (J Z 0) (G C 0 0) (G C 0 0) (G C 0 0) (G C 0 0)
  obtain⟨q0,q1,q2,q3,q4,_,_⟩:=jg hs5.1
  exact Rj (v:=.tuple #[.agg #[J Z 0,G C 0 0,G C 0 0,G C 0 0,G C 0 0],H I]) (by simp[Rv,results73,go_sem,q0,q1,q2,q3,q4]) rfl (iW.no (HB.out) (hs5.2.fy (hGV) (by simp only[Rc];rintro b rfl;exact hw2)))):g:=f
theorem zoK (s:N)(w:U)(hs:s.size<=4194304):RD prog 73 #[V s] w (iW (qO s) w):=by
 have hs2:s.size<=1099511627776:=K9;have b5:fE 0:=⟨K9,K9⟩
 obtain⟨id,z0,aU,ak⟩:∃ n z ok,iD s 0=(n,z,ok):=⟨_,_,_,rfl⟩
 have cu:z0<=s.size:=by
  cases aU
  ·have:=(tP ak).2;omega
  ·have:=qJ ak;omega
 have aC:fE (z0:Int):=⟨K9,K9⟩
 obtain⟨n,z1,aV,am⟩:∃ n z ok,iD s (z0:Int)=(n,z,ok):=⟨_,_,_,rfl⟩
 have bA:z0+z1<=s.size:=by
  cases aV
  ·have:=(tP am).2;omega
  ·have:=qJ am;omega
 have bW:id<=1099511627775:=by
  cases aU
  ·have:=(tP ak).1;omega
  ·exact(qJ ak).2.2.2.2
 have cp:n<=1099511627775:=by
  cases aV
  ·have:=(tP am).1;omega
  ·exact(qJ am).2.2.2.2
 have aX:=fh ak;have aY:=fh am;have cc:Rg Z ((z0:Int)+(z1:Int))=(z0:Int)+(z1:Int):=iw;go_enter func73,ntmps73;go_upto_region 2 with(fail);have r2:=zj (Re w (F #[J Z 0,G C 0 0,G C 0 0,G C 0 0,G C 0 0] 108)) (show fu _ ((w.alloc (F #[J Z 0,G C 0 0,G C 0 0,G C 0 0,G C 0 0] 108)).alloc (F #[J Z 0,G C 0 0,G C 0 0,G C 0 0,G C 0 0] 108)) from gG);have r4:=Re (w.alloc (F #[J Z 0,G C 0 0,G C 0 0,G C 0 0,G C 0 0] 108)) (F #[J Z 0,G C 0 0,G C 0 0,G C 0 0,G C 0 0] 108);have aT:fu w ((w.alloc (F #[J Z 0,G C 0 0,G C 0 0,G C 0 0,G C 0 0] 108)).alloc (F #[J Z 0,G C 0 0,G C 0 0,G C 0 0,G C 0 0] 108)):=gG;rw[Rz] at r4;obtain⟨g2,bb⟩:∃ g,w.heap.size=g:=⟨_,rfl⟩
 have hw2:w.heap.size<=g2:=K9;rw[bb] at r2 r4 |-;have ck:=fh bb;clear bb;generalize ((w.alloc _).alloc _)=Y at r2 r4 aT |-;obtain⟨g4,bv⟩:∃ g,g2+1=g:=⟨_,rfl⟩
 rw[bv] at r4 |-;have cl:g2<g4:=K9;clear bv;by_cases hgood:aU=M/\aV=M
 case neg=>
  have HN:=fh (KQ ak am hgood);clear ak am;cases aU
  ·go_wp2_with(first
    | (go_at_call 108;(with_reducible refine(zdz s 0 _ hs2 b5).mono ?_);rw[aX.out];rintro e v1 ⟨rfl,aF⟩)
    | (go_at_call 108;(with_reducible refine(zdz s (z0:Int) _ hs2 aC).mono ?_);rw[aY.out];rintro e v2 ⟨rfl,aG⟩;have a6:=aF.trans (fu.trans (gF:fu v1 _) aG);have r2:=zj r2 a6;have r4:=zj r4 a6;obtain⟨a0,a1,a2,a3,a4,af,al⟩:=jg r2;obtain⟨b0,b1,b2,b3,b4,bf,bl⟩:=jg r4))
   have hs5:=tK r2 (J Z 0) (G C 0 0) (G C 0 0) (G C 0 0) (G C 0 0)
   obtain⟨q0,q1,q2,q3,q4,_,_⟩:=jg hs5.1
   exact Rj (v:=.tuple #[.agg #[J Z 0,G C 0 0,G C 0 0,G C 0 0,G C 0 0],H I]) (by simp[Rv,results73,go_sem,q0,q1,q2,q3,q4]) rfl (iW.no (HN.out) (hs5.2.fy (aT.trans a6) (by simp only[Rc];rintro b rfl;exact hw2)))
  ·cases aV
   ·go_wp2_with(first
     | (go_at_call 108;(with_reducible refine(zdz s 0 _ hs2 b5).mono ?_);rw[aX.out];rintro e v1 ⟨rfl,aF⟩)
     | (go_at_call 108;(with_reducible refine(zdz s (z0:Int) _ hs2 aC).mono ?_);rw[aY.out];rintro e v2 ⟨rfl,aG⟩;have a6:=aF.trans (fu.trans (gF:fu v1 _) aG);have r2:=zj r2 a6;have r4:=zj r4 a6;obtain⟨a0,a1,a2,a3,a4,af,al⟩:=jg r2;obtain⟨b0,b1,b2,b3,b4,bf,bl⟩:=jg r4))
    have hs5:=tK r2 (J Z 0) (G C 0 0) (G C 0 0) (G C 0 0) (G C 0 0)
    obtain⟨q0,q1,q2,q3,q4,_,_⟩:=jg hs5.1
    exact Rj (v:=.tuple #[.agg #[J Z 0,G C 0 0,G C 0 0,G C 0 0,G C 0 0],H I]) (by simp[Rv,results73,go_sem,q0,q1,q2,q3,q4]) rfl (iW.no (HN.out) (hs5.2.fy (aT.trans a6) (by simp only[Rc];rintro b rfl;exact hw2)))
   ·exact absurd ⟨rfl,rfl⟩ hgood
 obtain⟨rfl,rfl⟩:=hgood;have aB:=Qy ak am;have HN:=fh (fun(h:sN s id n (z0+z1)=C)=>EO (aB.trans h));have HY:=fh (fun(d:gE) (h:sN s id n (z0+z1)=D d)=>(show qO s=if mQ d=s then (d,M) else (wG,I) from by unfold qO;rw[aB.trans h]));clear ak am aB
 go_wp2_with(first
  | (go_at_call 108;(with_reducible refine(zdz s 0 _ hs2 b5).mono ?_);rw[aX.out];rintro e v1 ⟨rfl,aF⟩)
  | (go_at_call 108;(with_reducible refine(zdz s (z0:Int) _ hs2 aC).mono ?_);rw[aY.out];rintro e v2 ⟨rfl,aG⟩;have a6:=aF.trans (fu.trans (gF:fu v1 _) aG);have r2:=zj r2 a6;have r4:=zj r4 a6;obtain⟨a0,a1,a2,a3,a4,af,al⟩:=jg r2;obtain⟨b0,b1,b2,b3,b4,bf,bl⟩:=jg r4))
 have eD:=Re v2 (F #[J Z (id:Int),G C 0 0,G C 0 0,G C 0 0,G C 0 0] 108);have be:fu v2 (v2.alloc (F #[J Z (id:Int),G C 0 0,G C 0 0,G C 0 0,G C 0 0] 108)):=gG;have bg:g4<v2.heap.size:=bl;obtain⟨gd,bw⟩:∃ g,v2.heap.size=g:=⟨_,rfl⟩
 rw[bw] at eD bg |-;clear bw;have r2:=zj r2 be;have r4:=zj r4 be;have az:=(aT.trans a6).trans be;generalize (v2.alloc _)=Y1 at eD r2 r4 az |-;clear a0 a1 a2 a3 a4 af al b0 b1 b2 b3 b4 bf bl;go_loopw [6,12] (fun p q wr=>∃(k pos:Nat) (a5:Q fC) (A5:X RJ) (c5:Nat) (S:Q Nat),p=J Z (pos:Int)/\q=J Z (k:Int)/\k<=n/\pos<=s.size/\a5.length<=pos/\Hid (mc s (n-k) pos a5=mc s n (z0+z1) [])/\Hid (fu w wr)/\wr.heap[g2]?=D (F #[J Z 0,G C 0 0,G C 0 0,G C 0 0,G C 0 0] 108 (0,0))/\wr.heap[g4]?=D (F #[J Z 0,G C 0 0,G C 0 0,G C 0 0,G C 0 0] 108 (0,0))/\wr.heap[gd]?=D (F #[J Z (id:Int),G A5 a5.length c5,G C 0 0,G C 0 0,G C 0 0] 108 (0,0))/\Hid (Has (jm.sl 137) wr [G A5 a5.length c5] a5 S)/\Hid (∀ b∈S,gd<b)) (fun _ q _=>n-(RS q).toNat)
 case atStart=>exact⟨0,z0+z1,[],C,0,[],Ar,rfl,Rl _,bA,Rl _,fh rfl,fh az,r2,r4,eD,fh (Has.nil jm 137 Y1),fh (fun b hb=>by cases hb)⟩
 clear eD r2 r4 az;obtain⟨k,pos,a5,A5,c5,S,rfl,rfl,hk,aM,cm,HT,hG,r2,r4,hbx,hH,hS⟩:=hrel;by_cases hlt:k<n
 ·have bX:(k:Int)<(n:Int):=K9
  obtain⟨r,hr⟩:∃ r,n-k=r+1:=⟨n-k-1,K9⟩
  have hT:=HT.out;rw[hr] at hT;have hpI:fE (pos:Int):=⟨K9,K9⟩
  obtain⟨t,m,aD,a8⟩:∃ t m ok,jH s (pos:Int)=(t,m,ok):=⟨_,_,_,rfl⟩
  have bZ:pos+m<=s.size/\t.size<=s.size:=by
   cases aD
   ·obtain⟨e1,e2⟩:=Iy a8;subst e1;exact⟨K9,Rl _⟩
   ·have:=tW a8;omega
  have c0:Rg Z ((pos:Int)+(m:Int))=(pos:Int)+(m:Int):=iw;have hpmI:fE ((pos:Int)+(m:Int)):=⟨K9,K9⟩
  obtain⟨l,q2,aE,au⟩:∃ l q ok,iR s (pos+m:Nat)=(l,q,ok):=⟨_,_,_,rfl⟩
  have c4:pos+m+q2<=s.size:=by
   cases aE
   ·have:=(Bm au).2;omega
   ·exact(tV au).2.1
  have HU1:=fh a8;have HU2:Hid (iR s ((pos:Int)+(m:Int))=(l,q2,aE)):=fh (by rw[<-au];congr 1);have cd:Rg Z ((k:Int)+1)=(k:Int)+1:=iw;have cs:Rg Z ((pos:Int)+(m:Int)+(q2:Int))=(pos:Int)+(m:Int)+(q2:Int):=iw;by_cases hgood:aD=M/\aE=M/\l.length=2
  case neg=>
   have aq:mc s (r+1) pos a5=C:=by
    cases aD
    ·exact FM a8
    ·cases aE
     ·exact FN a8 au
     ·exact FO a8 au (fun h=>hgood ⟨rfl,rfl,h⟩)
   have HB:=fh (HN.out (Nz (by rw[<-hT];exact aq)))
   have aL:aD=M->aE=M->((l.length:Int) != 2)=M:=fun h1 h2=>by
    simp only[bne_iff_ne];intro h;exact hgood ⟨h1,h2,K9⟩
   clear aq hT a8 au hgood hr;cases aD
   ·clear aL
    exact rT
   ·cases aE
    ·clear aL
     exact rT
    ·have bx:=aL rfl rfl
     clear aL;exact rT
  obtain⟨rfl,rfl,h2⟩:=hgood;obtain⟨y0,y1,rfl⟩:=two h2;have bF:Hid (mc s (n-(k+1)) (pos+m+q2) (a5++[⟨t,y0,y1⟩])=mc s n (z0+z1) []):=fh (by rw[show n-(k+1)=r from K9,<-hT,GL a8 au]);have co:=(tW a8).1;have aL:((([y0,y1]:Q Int).length:Int) != 2)=I:=rfl;clear a8 au hr hT
  go_wp2_with(first
   | (go_at_call 109;(with_reducible refine(zfP s (pos:Int) _ hs2 hpI).mono ?_);rw[HU1.out];rintro e v3 ⟨rfl,hG3⟩)
   | (go_at_call 110;(with_reducible refine(zdm s ((pos:Int)+(m:Int)) _ hs2 hpmI).mono ?_);rw[HU2.out];rintro e v4 ⟨A6,c6,rfl,hF4,hG4⟩;have hG34:fu wr v4:=(fu.trans gF hG3).trans (fu.trans gF hG4);have r2:=zj r2 hG34;have r4:=zj r4 hG34;have hbx:=zj hbx hG34;obtain⟨a0,a1,a2,a3,a4,af,al⟩:=jg r2;obtain⟨b0,b1,b2,b3,b4,bf,bl⟩:=jg r4;obtain⟨x0,x1,x2,x3,x4,xf,xl⟩:=jg hbx))
  obtain⟨g6,o6,bL,bU,ae⟩:=AW hF4.read II;subst bL;have bn:=(ae 0 y0 rfl).1;have bK:=(ae 1 y1 rfl).1;rw[Sr] at bn;have bI:=(ae 0 y0 rfl).2;have bJ:=(ae 1 y1 rfl).2;have ar:t.size<=9223372036854775807:=K9;have bQ:=hH.out.fy hG34;have ce:=hH.out.lt
  have bT:wr.heap.size<=g6:=by
   obtain⟨S2,s1,s2⟩:=hF4.has;exact RG (RG (fu.size (fu.trans gF hG3)) (fu.size gF)) (s2 g6 (F6 s1))
  have aJ:g6∉S:=fun hm=>by have h6:=ce g6 hm;omega
  have aK:gd∉S:=fun hm=>by have h6:=hS.out gd hm;omega
  clear ae;go_upto_region 15 with(fail);refine zX (fun w'=>Rb w' ⟨gd,1,C⟩=D (G A5 a5.length c5)/\Rb w' ⟨g6,o6,C⟩=D (J Z y0)/\Rb w' ⟨g6,o6+1,C⟩=D (J Z y1)) 13 Fs (by((repeat' apply Rf) <;> ((repeat (first | with_reducible assumption | with_reducible refine zd ?_ _ _ | with_reducible refine zo ?_ _ | with_reducible refine zc ?_ | with_reducible refine mC ?_ _));done))) (fun hH=>?_);refine .tq 0 [13] hH ?_;refine .tq 1 [13] hH ?_;refine .tq 2 [13] hH ?_;refine .tq 3 [13] hH ?_;refine .tq 4 [13] hH ?_;refine .tq 5 [13] hH ?_;refine .tq 6 [13] hH ?_;refine .tq 7 [13] hH ?_;refine .tq 8 [13] hH ?_;refine .tq 9 [13] hH ?_;refine fA.one (i:=10) Fs rfl (fun K hK=>?_);go_simp;refine hK.out _ _ (by((repeat' apply Rf) <;> ((repeat (first | with_reducible assumption | with_reducible refine zd ?_ _ _ | with_reducible refine zo ?_ _ | with_reducible refine zc ?_ | with_reducible refine mC ?_ _));done))) (fun hH10=>?_);clear hK hH
  try simp only[lay]
  refine fA.one (i:=11) Fs rfl (fun K hK=>?_);(refine pY (L:=a5.length+1) rfl (.tmp 90) (.tmp 99) AS Au (bQ.fy gF) (W1:=w) (B:=0) (ec:=[V t,J Z y0,J Z y1]) (y:=(⟨t,y0,y1⟩:fC)) (Fw (x:=⟨t,y0,y1⟩) ar bI bJ) rfl rfl rfl (by intro j u hu;simpa[go_sem] using hu) rfl K9 K9 ?_;intro A8 c8 W8 S8 ag aN aR;have u1:=zC x1 gF ag aK;have u2:=zC bn gF ag aJ;have u3:=zC bK gF ag aJ;have b9:=(ag.block gd (Ri xl (fu.size gF)) aK).trans (zj hbx gF);obtain⟨f0,f1,f2,f3,f4,ff,fl⟩:=jg b9);refine hK.out _ _ (by((repeat' apply Rf) <;> ((repeat (first | with_reducible assumption | with_reducible refine zd ?_ _ _ | with_reducible refine zo ?_ _ | with_reducible refine zc ?_ | with_reducible refine mC ?_ _));done))) (fun hH1011=>?_);clear hK hH10
  try simp only[lay]
  refine .tq 12 [13] hH1011 ?_;refine fA.last Fs rfl Fs (fun K hK=>?_);go_simp;refine hK.out _ _ ?_;clear hK
  try simp only[lay]
  have bt:(W8.setCell ⟨gd,1,C⟩ (G A8 (a5.length+1) c8)).heap[gd]?=D (F #[J Z (id:Int),G A8 (a5.length+1) c8,G C 0 0,G C 0 0,G C 0 0] 108 (0,0)):=jd b9 rfl;have ac:fx [gd] W8 (W8.setCell ⟨gd,1,C⟩ (G A8 (a5.length+1) c8)):=(fx.refl _ _).setCell (p:=⟨gd,1,C⟩) II _;generalize (W8.setCell _ _)=W9 at bt ac |-;have bc:g2∉S:=fun hm=>by have h6:=hS.out g2 hm;omega
  have bd:g4∉S:=fun hm=>by have h6:=hS.out g4 hm;omega
  have bx:g2<W8.heap.size:=K9;have bY:g4<W8.heap.size:=K9;have cf:=(ac.block g2 bx (by simp only[Rc];omega)).trans ((ag.block g2 (Ri al (fu.size gF)) bc).trans (zj r2 gF));have cg:=(ac.block g4 bY (by simp only[Rc];omega)).trans ((ag.block g4 (Ri bl (fu.size gF)) bd).trans (zj r4 gF));have aH:∀ b∈S8,gd<b:=fun b hb=>(aR b hb).elim (hS.out b) (fun h=>Ri (Ri xl (fu.size gF)) h);have bR:=Has.fJ aN ac (fun b hb hm=>by simp only[Rc] at hm;have:=aH b hb;omega);have ab:fu w W9:=ac.fy (ag.fy ((hG.out.trans hG34).trans gF) (fun b hb=>by have:=hS.out b hb;omega)) (by simp only[Rc];rintro b rfl;omega);clear r2 r4 hbx b9 ag ac aN aR;go_wp2_with(fail);go_roundw;exact⟨k+1,pos+m+q2,a5++[⟨t,y0,y1⟩],A8,c8,S8,Ar,Ar,K9,c4,by simp;omega,bF,fh ab,cf,cg,by simpa using bt,fh (by simpa using bR),fh aH⟩;exact gM
 ·obtain rfl:k=n:=K9
  have bX:¬ ((k:Int)<(k:Int)):=K9;have aa:mc s k (z0+z1) []=D (a5,pos):=by rw[<-HT.out,St];rfl
  have bz:=(FK k (z0+z1) [] a5 pos bA aa).2.2;have ca:lU a5<=54525952:=by simp only[lU,List.map_nil,List.sum_nil] at bz |-;omega
  have bB:=fh (fun(h:nk s 3 pos []=C)=>HN.out (NA aa h));have bH:=fh (fun(p0 p1 p2:N) (b:Nat) (h:nk s 3 pos []=D ([p0,p1,p2],b))=>(show sN s id k (z0+z1)=_ from NB (id:=(id:Int)) aa h));clear aa bz;go_upto_region 17 with(fail);go_wp2_with(fail);go_loopw [6,19,20] (fun p u q wq=>∃(j p2:Nat) (ps:Q N) (A7:X RJ) (c7:Nat) (S7:Q Nat),p=J Z (p2:Int)/\u=G A7 ps.length c7/\q=J Z (j:Int)/\j<=3/\p2<=s.size/\ps.length<=3/\Hid (ps.length=j)/\Hid (nk s (3-j) p2 ps=nk s 3 pos [])/\Hid (fu wr wq)/\Hid (Has (iI.sl 9) wq [G A7 ps.length c7] ps S7)/\Hid (∀ b∈S7,wr.heap.size<=b)) (fun _ _ q _=>3-(RS q).toNat)
  case atStart=>exact⟨0,pos,[],_,0,[wr.heap.size],rfl,rfl,rfl,qo,aM,qo,fh rfl,fh rfl,fh gF,fh (Has.Wy iI (Re wr (F #[] 9))),fh (fun b hb=>by simp only[Rc] at hb;omega)⟩
  obtain⟨j,p2,ps,A7,c7,S7,rfl,rfl,rfl,hj,cq,cr,aZ,bk,av,bp,bs⟩:=hrel;have bo:=hG.out.trans av.out;have bq:=hH.out.fy av.out;have r2:=zj r2 av.out;have r4:=zj r4 av.out;have hbx:=zj hbx av.out;by_cases hlt3:j<3
  ·have bi:(j:Int)<3:=K9
   have hpI:fE (p2:Int):=⟨K9,K9⟩
   obtain⟨r,hr⟩:∃ r,3-j=r+1:=⟨3-j-1,K9⟩
   have hT:=bk.out;rw[hr] at hT;obtain⟨t,m,aD,a8⟩:∃ t m ok,jH s (p2:Int)=(t,m,ok):=⟨_,_,_,rfl⟩
   have HU1:=fh a8;have cd:Rg Z ((j:Int)+1)=(j:Int)+1:=iw;have ct:wr=wr:=rfl;cases aD
   ·have HB:=fh (bB.out (by rw[<-hT];exact IP a8))
    clear hT a8 hr;go_wp2_with(go_at_call 109;(with_reducible refine(zfP s (p2:Int) _ hs2 hpI).mono ?_);rw[HU1.out];rintro e v3 ⟨rfl,hG3⟩;have hG34:fu wr v3:=fu.trans gF hG3;have r2:=zj r2 hG34;have r4:=zj r4 hG34;have hbx:=zj hbx hG34;obtain⟨a0,a1,a2,a3,a4,af,al⟩:=jg r2;obtain⟨b0,b1,b2,b3,b4,bf,bl⟩:=jg r4;obtain⟨x0,x1,x2,x3,x4,xf,xl⟩:=jg hbx);have hs5:=tK r2 (J Z 0) (G C 0 0) (G C 0 0) (G C 0 0) (G C 0 0);obtain⟨q0,q1,q2,q3,q4,_,_⟩:=jg hs5.1;exact Rj (v:=.tuple #[.agg #[J Z 0,G C 0 0,G C 0 0,G C 0 0,G C 0 0],H I]) (by simp[Rv,results73,go_sem,q0,q1,q2,q3,q4]) rfl (iW.no (HB.out) (hs5.2.fy (bo.trans hG34) (by simp only[Rc];rintro b rfl;exact hw2)))
   ·have bZ:=tW a8
    have c0:Rg Z ((p2:Int)+(m:Int))=(p2:Int)+(m:Int):=iw;have bG:Hid (nk s (3-(j+1)) (p2+m) (ps++[t])=nk s 3 pos []):=fh (by rw[show 3-(j+1)=r from K9,<-hT,IQ a8]);have ar:t.size<=9223372036854775807:=K9;clear hT a8 hr
    go_wp2_with(first
     | (go_at_call 109;(with_reducible refine(zfP s (p2:Int) _ hs2 hpI).mono ?_);rw[HU1.out];rintro e v3 ⟨rfl,hG3⟩;have hG34:fu wr v3:=fu.trans gF hG3;have r2:=zj r2 hG34;have r4:=zj r4 hG34;have hbx:=zj hbx hG34;obtain⟨a0,a1,a2,a3,a4,af,al⟩:=jg r2;obtain⟨b0,b1,b2,b3,b4,bf,bl⟩:=jg r4;obtain⟨x0,x1,x2,x3,x4,xf,xl⟩:=jg hbx)
     | (refine zD (L:=ps.length+1) rfl (.tmp 122) (.tmp 124) tG lA ((bp.out.fy hG34).fy gF) (W1:=w) (B:=0) (ec:=[V t]) (y:=t) ⟨rfl,ar⟩ rfl rfl rfl (by intro j u hu;simpa[go_sem] using hu) rfl K9 K9 ?_;intro A8 c8 W8 S8 ag aN aR))
    go_roundw;exact⟨j+1,p2+m,ps++[t],A8,c8,S8,Ar,II,Ar,K9,K9,by simp;have:=aZ.out;omega,fh (by simp[aZ.out]),bG,fh (ag.fy ((av.out.trans hG34).trans gF) bs.out),fh (by simpa using aN),fh (fun b hb=>(aR b hb).elim (bs.out b) (fun h=>RG ((av.out.trans hG34).trans gF).size h))⟩;exact gM
  ·obtain rfl:j=3:=K9
   have bi:¬ ((3:Int)<3):=K9;obtain⟨t0,t1,t2,rfl⟩:=Pz aZ.out;have bj:nk s 3 pos []=D ([t0,t1,t2],p2):=by rw[<-bk.out];rfl
   have hY:=bH.out t0 t1 t2 p2 bj;have ar:=(Hi 3 pos [] _ p2 aM bj).2.2.2 II;have cv:=ar t0 II;have cw:=ar t1 II;have cx:=ar t2 II;obtain⟨R1,o1,aO⟩:∃ r o,oQ t0=(r,o):=⟨_,_,rfl⟩
   obtain⟨R2,o2,aP⟩:∃ r o,oV t1=(r,o):=⟨_,_,rfl⟩
   obtain⟨R3,o3,aQ⟩:∃ r o,nh t2=(r,o):=⟨_,_,rfl⟩
   rw[aO,aP,aQ] at hY;simp only at hY;have l1:=Kw t0;have l2:=KT t1;have l3:=LZ t2;rw[aO] at l1;rw[aP] at l2;rw[aQ] at l3;simp only at l1 l2 l3;have ch:t0.size<=4194304:=K9;have ci:t1.size<=4194304:=K9;have cj:t2.size<=4194304:=K9;have bC:=fh aO;have bD:=fh aP;have bE:=fh aQ;have bm:=fh hY;clear aO aP aQ hY bj ar;have ba:=hbx;obtain⟨gs,os,bM,cn,a9⟩:=Pv bp.out.read II;subst bM;have s0:=a9 0 t0 rfl;have s1:=a9 1 t1 rfl;have s2:=a9 2 t2 rfl;rw[Sr] at s0;clear a9
   go_upto_region 32 with(first
    | (go_at_call 111;(with_reducible refine(zqL t0 _ ch).mono ?_);rw[bC.out];rintro e v5 ⟨B1,e1,Q1,rfl,b7,c1,bN⟩;have ah:fu wr v5:=fu.trans gF bN;have s1:=zM ah s1;have s2:=zM ah s2)
    | (go_at_call 112;(with_reducible refine(zs2 t1 _ ci).mono ?_);rw[bD.out];rintro e v6 ⟨B2,e2,Q2,rfl,b8,c2,bO⟩;have ai:fu v5 v6:=fu.trans gF bO;have s2:=zM ai s2)
    | (go_at_call 113;(with_reducible refine(zuG t2 _ cj).mono ?_);rw[bE.out];rintro e v7 ⟨B3,e3,Q3,rfl,br,c3,bP⟩;have aj:fu v6 v7:=fu.trans gF bP;have ad:fu wr v7:=(ah.trans ai).trans aj;have r2:=zj r2 ad;have r4:=zj r4 ad;have hbx:=zj hbx ad;obtain⟨a0,a1,a2,a3,a4,af,al⟩:=jg r2;obtain⟨b0,b1,b2,b3,b4,bf,bl⟩:=jg r4;obtain⟨x0,x1,x2,x3,x4,xf,xl⟩:=jg hbx))
   have bV:=(blt ba)
   have aI:(((v7.setCell ⟨gd,2,C⟩ (G B1 R1.length e1)).setCell ⟨gd,3,C⟩ (G B2 R2.length e2)).setCell ⟨gd,4,C⟩ (G B3 R3.length e3)).heap[gd]?=D (F #[J Z (id:Int),G A5 a5.length c5,G B1 R1.length e1,G B2 R2.length e2,G B3 R3.length e3] 108 (0,0)):=
    jd (cur:=#[J Z (id:Int),G A5 a5.length c5,G B1 R1.length e1,G B2 R2.length e2,G C 0 0]) (jd (cur:=#[J Z (id:Int),G A5 a5.length c5,G B1 R1.length e1,G C 0 0,G C 0 0]) (jd hbx rfl) rfl) rfl
   have a7:fx [gd] v7 (((v7.setCell ⟨gd,2,C⟩ (G B1 R1.length e1)).setCell ⟨gd,3,C⟩ (G B2 R2.length e2)).setCell ⟨gd,4,C⟩ (G B3 R3.length e3)):=(((fx.refl _ _).setCell (p:=⟨gd,2,C⟩) II _).setCell (p:=⟨gd,3,C⟩) II _).setCell (p:=⟨gd,4,C⟩) II _;generalize (((v7.setCell _ _).setCell _ _).setCell _ _)=Q7 at aI a7 |-;have bh:w.heap.size<=gd:=K9;have r2:=(a7.block g2 al (by simp only[Rc];omega)).trans r2;have r4:=(a7.block g4 bl (by simp only[Rc];omega)).trans r4;have hGV:fu w Q7:=a7.fy (bo.trans ad) (by simp only[Rc];rintro b rfl;exact bh);have an:∀ b∈Q1,wr.heap.size<=b:=c1;have ao:∀ b∈Q2,v5.heap.size<=b:=c2;have ap:∀ b∈Q3,v6.heap.size<=b:=c3;have m5:=ah.size;have m6:=ai.size;have m7:=aj.size;have n0:=bq.lt;have n1:=b7.lt;have n2:=b8.lt;have b6:=(bq.fy ad).fJ a7 (fun b hb hm=>by simp only[Rc] at hm;have:=hS.out b hb;omega);have aw:=(b7.fy (ai.trans aj)).fJ a7 (fun b hb hm=>by simp only[Rc] at hm;have:=an b hb;omega);have ax:=(b8.fy aj).fJ a7 (fun b hb hm=>by simp only[Rc] at hm;have:=ao b hb;omega);have ay:=br.fJ a7 (fun b hb hm=>by simp only[Rc] at hm;have:=ap b hb;omega);clear x0 x1 x2 x3 x4 xf xl a0 a1 a2 a3 a4 af al b0 b1 b2 b3 b4 bf bl b7 b8 br;obtain⟨a0,a1,a2,a3,a4,af,al⟩:=jg r2;obtain⟨b0,b1,b2,b3,b4,bf,bl⟩:=jg r4;obtain⟨x0,x1,x2,x3,x4,xf,xl⟩:=jg aI;by_cases hoo:o1=M/\o2=M/\o3=M
   case neg=>
    have HB:=fh (HN.out (bm.out.trans (Ro hoo)));cases o1
    ·go_wp2_with(fail)
     exact sj
    ·cases o2
     ·go_wp2_with(fail)
      exact sj
     ·cases o3
      ·go_wp2_with(fail)
       exact sj
      ·exact absurd ⟨rfl,rfl,rfl⟩ hoo
   obtain⟨rfl,rfl,rfl⟩:=hoo;have aA:fE (id:Int):=⟨K9,K9⟩
   have bu:qX ⟨(id:Int),a5,R1,R2,R3⟩:=⟨by simp only;omega,by simp only;omega,by simp only;omega,by simp only;omega⟩
   have aS:=HY.out _ (bm.out.trans (Rs ⟨rfl,rfl,rfl⟩));by_cases he:mQ ⟨(id:Int),a5,R1,R2,R3⟩=s
   ·have HR:Hid (qO s=(⟨(id:Int),a5,R1,R2,R3⟩,M)):=fh (by rw[aS,Rs he])
    have aW:=fh he;have bS:(s.toList != s.toList)=I:=by rw[bne,lC,Rp rfl];rfl
    clear he aS;go_wp2_with(go_at_call 74;(with_reducible refine(G8 b6.read aw.read ax.read ay.read aA bu).mono ?_);rw[aW.out];rintro e v8 ⟨rfl,ab⟩;have r2:=zj r2 ab;have aI:=zj aI ab;obtain⟨a0,a1,a2,a3,a4,af,al⟩:=jg r2;obtain⟨x0,x1,x2,x3,x4,xf,xl⟩:=jg aI);have hs5:=tK r2 (J Z (id:Int)) (G A5 a5.length c5) (G B1 R1.length e1) (G B2 R2.length e2) (G B3 R3.length e3);obtain⟨q0,q1,q2,q3,q4,_,_⟩:=jg hs5.1;have k0:=(b6.fy ab).fJ hs5.2 (fun b hb hm=>by simp only[Rc] at hm;have:=hS.out b hb;omega);have k1:=(aw.fy ab).fJ hs5.2 (fun b hb hm=>by simp only[Rc] at hm;have:=an b hb;omega);have k2:=(ax.fy ab).fJ hs5.2 (fun b hb hm=>by simp only[Rc] at hm;have:=ao b hb;omega);have k3:=(ay.fy ab).fJ hs5.2 (fun b hb hm=>by simp only[Rc] at hm;have:=ap b hb;omega);refine Rj (v:=.tuple #[.agg #[J Z (id:Int),G A5 a5.length c5,G B1 R1.length e1,G B2 R2.length e2,G B3 R3.length e3],H M]) (by simp[Rv,results73,go_sem,q0,q1,q2,q3,q4]) rfl ?_;rw[HR.out];refine⟨A5,c5,B1,e1,B2,e2,B3,e3,rfl,⟨S++Q1++Q2++Q3,Mx (x:=⟨(id:Int),a5,R1,R2,R3⟩) A5 c5 S B1 e1 Q1 B2 e2 Q2 B3 e3 Q3 aA k0.1 k1.1 k2.1 k3.1,?_,?_⟩,hs5.2.fy (hGV.trans ab) (by simp only[Rc];rintro b rfl;exact hw2)⟩
    ·rw[RM,RM,RM]
     refine⟨⟨⟨k0.2,k1.2,fun a ha b hb=>?_⟩,k2.2,fun a ha b hb=>?_⟩,k3.2,fun a ha b hb=>?_⟩
     ·have:=n0 a ha;have:=an b hb;omega
     ·have:=ao b hb
      rcases Rr.1 ha with h | h
      ·have:=n0 a h;omega
      ·have:=n1 a h;omega
     ·have:=ap b hb
      rcases Rr.1 ha with h | h
      ·rcases Rr.1 h with h | h
       ·have:=n0 a h;omega
       ·have:=n1 a h;omega
      ·have:=n2 a h;omega
    ·intro b hb
     rcases Rr.1 hb with h | h
     ·rcases Rr.1 h with h | h
      ·rcases Rr.1 h with h | h
       ·have:=hS.out b h;omega
       ·have:=an b h;omega
      ·have:=ao b h;omega
     ·have:=ap b h;omega
   ·have HR:Hid (qO s=(wG,I)):=fh (by rw[aS,Ro he])
    obtain⟨E,hE⟩:∃ E,mQ ⟨(id:Int),a5,R1,R2,R3⟩=E:=⟨_,rfl⟩
    have aW:=fh hE;rw[hE] at he;have bS:(E.toList == s.toList)=I:=by rw[lC,Rk he]
    clear he hE aS;go_wp2_with(go_at_call 74;(with_reducible refine(G8 b6.read aw.read ax.read ay.read aA bu).mono ?_);rw[aW.out];rintro e v8 ⟨rfl,ab⟩;have r2:=zj r2 ab;have r4:=zj r4 ab;obtain⟨a0,a1,a2,a3,a4,af,al⟩:=jg r2;obtain⟨b0,b1,b2,b3,b4,bf,bl⟩:=jg r4);have hs5:=tK r2 (J Z 0) (G C 0 0) (G C 0 0) (G C 0 0) (G C 0 0);obtain⟨q0,q1,q2,q3,q4,_,_⟩:=jg hs5.1;exact Rj (v:=.tuple #[.agg #[J Z 0,G C 0 0,G C 0 0,G C 0 0,G C 0 0],H I]) (by simp[Rv,results73,go_sem,q0,q1,q2,q3,q4]) rfl (iW.no (HR.out) (hs5.2.fy (hGV.trans ab) (by simp only[Rc];rintro b rfl;exact hw2)))
end Go.Proofs.YthgbglbaemelhaaGreat
