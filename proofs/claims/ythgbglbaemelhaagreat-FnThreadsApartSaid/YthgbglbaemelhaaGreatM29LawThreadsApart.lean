/-
  PART.
-/
import Derived.Test.YthgbglbaemelhaaGreatM20LawThreadsApart
import Derived.Test.YthgbglbaemelhaaGreatM28LawThreadsApart
set_option linter.unusedVariables false
set_option linter.unusedSimpArgs false
set_option maxRecDepth 100000
set_option maxHeartbeats 8000000
namespace Go.Proofs.YthgbglbaemelhaaGreat
open Value renaming slice->G,int->J,bool->H,string->V
open IntKind renaming i64->Z,wrap->Rg
open Option renaming none->C,some->D
open Obj renaming cells->F
open Bool renaming false->I,true->M
open Go renaming World->U,results->Rv,Calls->RD,Addr->RJ,TypeId->R5,yielded->Th
open World renaming cell?->Rb,alloc->Su
open List renaming length_cons->RA,length_nil->RR,getElem?_cons_zero->RW,nil_append->RY,getElem?_cons_succ->Tg,sum_cons->Tu
open RowKit renaming intOf->RS
open Region renaming wanted->RV,ready->Sn,noSelect->TZ,Mode->Ub,free->Wu
open Tryz
open Go.RowKit
variable {A A0 A1 A2 A3 A4 A5 AE:X RJ}{B c c0 c1 c2 c3 c4 c5 cE g k l n nE:Nat}{P:Program}{S S4 S5 SE:Q Nat}{Q7 W Y w:U}{a:Act}{b:fY}{b0 b1 base:Int}{es:Q Int}{i i0 i1:gv}{nm:N}{o:Oper}{p:Q fw}{s:gk}{x:gE}
def lZ (q:iZ × Bool)(w:U)(e:Ending)(w':U):Prop:=∃ A0 c0 A1 c1 A2 c2 A3 c3,e=.returned (.tuple #[.agg #[G A0 q.1.fk.fo.length c0,G A1 q.1.fk.ft.length c1,G A2 q.1.fk.ii.length c2,G A3 q.1.fV.length c3],H q.2])/\
 fU pd w w' [G A0 q.1.fk.fo.length c0,G A1 q.1.fk.ft.length c1,G A2 q.1.fk.ii.length c2,G A3 q.1.fV.length c3] q.1/\fu w w'
theorem lZ.no {q:iZ × Bool} {w':U} (h:q=(⟨⟨[],[],[]⟩,[]⟩,I))(hg:fu w w'):lZ q w (.returned (.tuple #[.agg #[G C 0 0,G C 0 0,G C 0 0,G C 0 0],H I])) w':=by
 subst h;exact⟨C,0,C,0,C,0,C,0,rfl,⟨_,Mw (x:=⟨⟨[],[],[]⟩,[]⟩) C 0 [] C 0 [] C 0 [] C 0 [] (Has.nil iG 103 w').1 (Has.nil zr 3 w').1 (Has.nil zr 3 w').1 (Has.nil mn 108 w').1,List.nodup_nil,fun b hb=>by cases hb⟩,hg⟩
theorem MH (h:mn.R w B [J Z x.Id,G A0 x.fm.length c0,G A1 x.fW.length c1,G A2 x.AC.length c2,G A3 x.fI.length c3] x) :
  fE x.Id/\(jm.sl 137).R w B [G A0 x.fm.length c0] x.fm/\(kK.sl 205).R w B [G A1 x.fW.length c1] x.fW/\(lE.sl 216).R w B [G A2 x.AC.length c2] x.AC/\(kE.sl 214).R w B [G A3 x.fI.length c3] x.fI:=by
 obtain⟨_,_,_,_,_,_,_,_,he,hI,h0,h1,h2,h3⟩:=Hw h;simp only[TL,SY,U1,Ud] at he;obtain⟨⟨rfl,rfl⟩,⟨rfl,rfl⟩,⟨rfl,rfl⟩,⟨rfl,rfl⟩⟩:=he;exact⟨hI,h0,h1,h2,h3⟩
theorem CK {x:gk} (h:kY.R w B [G A0 x.fo.length c0,G A1 x.ft.length c1,G A2 x.ii.length c2] x) :
  (iG.sl 103).R w B [G A0 x.fo.length c0] x.fo/\(zr.sl 3).R w B [G A1 x.ft.length c1] x.ft/\(zr.sl 3).R w B [G A2 x.ii.length c2] x.ii:=by
 obtain⟨_,_,_,_,_,_,he,h0,h1,h2⟩:=Hy h;simp only[TL,SY,U1,Ud] at he;obtain⟨⟨rfl,rfl⟩,⟨rfl,rfl⟩,⟨rfl,rfl⟩⟩:=he;exact⟨h0,h1,h2⟩
theorem G9 (h:mn.R w w.heap.size [J Z x.Id,G A0 x.fm.length c0,G A1 x.fW.length c1,G A2 x.AC.length c2,G A3 x.fI.length c3] x)(hg:fu w W)(hs:lY x) :
  RD prog 74 #[.agg #[J Z x.Id,G A0 x.fm.length c0,G A1 x.fW.length c1,G A2 x.AC.length c2,G A3 x.fI.length c3]] W fun e w'=>e=.returned (V (mQ x))/\fu W w':=by
 obtain⟨hI,h0,h1,h2,h3⟩:=MH h;have e1:=hs.WB;have e2:=hs.WP;have e3:=hs.rows;have e4:=hs.inl;exact zoW (d:=x) (Ty.up _ h0 hg) (Ty.up _ h1 hg) (Ty.up _ h2 hg) (Ty.up _ h3 hg) hI ⟨K9,K9,K9,K9⟩
def uh (p:Q fw)(b:fY)(k:Nat):gE × Bool:=qO (mQ (oT p b (k:Int)))
theorem LI (p:Q fw)(b:fY)(s:gk):zW p b s=Bc s (uh p b 0) (uh p b 1):=rfl
theorem Le {x y:gE × Bool} (h:¬ (x.2=M/\y.2=M/\pG ⟨s,[x.1,y.1]⟩=M)):Bc s x y=(⟨⟨[],[],[]⟩,[]⟩,I):=Ro h
theorem Gg {y:gE} (h0:(iG.sl 103).R w w.heap.size [G A0 s.fo.length c0] s.fo)(h1:(zr.sl 3).R w w.heap.size [G A1 s.ft.length c1] s.ft)
  (h2:(zr.sl 3).R w w.heap.size [G A2 s.ii.length c2] s.ii) (h3:(mn.sl 108).R w w.heap.size [G A3 2 c3] [x,y]) (hs:jE s<=1099511627776) :
  RD prog 56 #[.agg #[G A0 s.fo.length c0,G A1 s.ft.length c1,G A2 s.ii.length c2,G A3 2 c3]] w fun r w'=>r=.returned (H (pG ⟨s,[x,y]⟩))/\fu w w':=zsJ (a:=⟨s,[x,y]⟩) h0 h1 h2 h3 hs
theorem zq1 (hx:(zQ.sl 99).R w w.heap.size [G A p.length c] p)(hll:p.length<=1099511627776)(hsx:∀ x∈p,x.fL.length<=1099511627776/\x.Expr.length<=1099511627776)(hnm:∀ x∈p,x.pu.size<=9223372036854775807)
  (h0:(iG.sl 103).R w w.heap.size [G A0 s.fo.length c0] s.fo) (h1:(zr.sl 3).R w w.heap.size [G A1 s.ft.length c1] s.ft) (h2:(zr.sl 3).R w w.heap.size [G A2 s.ii.length c2] s.ii) (hs:jE s<=1099511627776) :
  RD prog 34 #[G A p.length c,.agg #[J Z b.M2,J Z b.IR,H b.Wz,H b.NE],.agg #[G A0 s.fo.length c0,G A1 s.ft.length c1,G A2 s.ii.length c2]] w (lZ (zW p b s) w):=by
 have aF:=fh (fun(k:Nat) (W:U) (hG:fu w W)=>zpu (b:=b) (image:=(k:Int)) (w:=W) (Ty.up _ hx hG) hll hsx hnm);have aC:=fh (LI p b s);have aO:=fh (fun(k:Nat)=>(show qO (mQ (oT p b (k:Int)))=uh p b k from rfl));have aj:=fh (fun(k:Nat)=>DT p b (k:Int));go_enter func34,ntmps34;go_upto_region 1 with(fail);have EB:Obj:=(F #[J Z b.M2,J Z b.IR,H b.Wz,H b.NE] 71)
 clear EB;have a6:fu w (((w.alloc (F #[J Z b.M2,J Z b.IR,H b.Wz,H b.NE] 71)).alloc (F #[G A0 s.fo.length c0,G A1 s.ft.length c1,G A2 s.ii.length c2] 28)).alloc (F #[G C 0 0,G C 0 0,G C 0 0,G C 0 0] 31)):=gG;have e4:(((w.alloc (F #[J Z b.M2,J Z b.IR,H b.Wz,H b.NE] 71)).alloc (F #[G A0 s.fo.length c0,G A1 s.ft.length c1,G A2 s.ii.length c2] 28)).alloc (F #[G C 0 0,G C 0 0,G C 0 0,G C 0 0] 31)).heap[w.heap.size]?=D (F #[J Z b.M2,J Z b.IR,H b.Wz,H b.NE] 71 (0,0)):=zj (Re w _) gF
 have e5:(((w.alloc (F #[J Z b.M2,J Z b.IR,H b.Wz,H b.NE] 71)).alloc (F #[G A0 s.fo.length c0,G A1 s.ft.length c1,G A2 s.ii.length c2] 28)).alloc (F #[G C 0 0,G C 0 0,G C 0 0,G C 0 0] 31)).heap[w.heap.size+1]?=D (F #[G A0 s.fo.length c0,G A1 s.ft.length c1,G A2 s.ii.length c2] 28 (0,0)):=by
  have h:=Re (w.alloc (F #[J Z b.M2,J Z b.IR,H b.Wz,H b.NE] 71)) (F #[G A0 s.fo.length c0,G A1 s.ft.length c1,G A2 s.ii.length c2] 28);rw[Rz] at h;exact zj h gF
 have e6:(((w.alloc (F #[J Z b.M2,J Z b.IR,H b.Wz,H b.NE] 71)).alloc (F #[G A0 s.fo.length c0,G A1 s.ft.length c1,G A2 s.ii.length c2] 28)).alloc (F #[G C 0 0,G C 0 0,G C 0 0,G C 0 0] 31)).heap[w.heap.size+1+1]?=D (F #[G C 0 0,G C 0 0,G C 0 0,G C 0 0] 31 (0,0)):=by
  have h:=Re ((w.alloc (F #[J Z b.M2,J Z b.IR,H b.Wz,H b.NE] 71)).alloc (F #[G A0 s.fo.length c0,G A1 s.ft.length c1,G A2 s.ii.length c2] 28)) (F #[G C 0 0,G C 0 0,G C 0 0,G C 0 0] 31);rw[Rz,Rz] at h;exact h
 generalize (((w.alloc _).alloc _).alloc _)=Y at a6 e4 e5 e6 |-;obtain⟨g4,aw⟩:∃ g,w.heap.size=g:=⟨_,rfl⟩
 obtain⟨g5,ax⟩:∃ g,g4+1=g:=⟨_,rfl⟩
 obtain⟨g6,ay⟩:∃ g,g5+1=g:=⟨_,rfl⟩
 rw[aw] at e4 e5 e6 |-;rw[ax] at e5 e6 |-;rw[ay] at e6 |-;have b8:w.heap.size<=g4:=K9;have aB:w.heap.size<=g6:=K9;have a5:=fh aw;have aV:=fh ax;have aW:=fh ay;clear aw ax ay;obtain⟨x0,x1,x2,xf,xl⟩:=iS e5;have z0:=Ty.up _ h0 a6;have z1:=Ty.up _ h1 a6;have z2:=Ty.up _ h2 a6;go_wp2_with(go_at_call 72;(with_reducible refine(zjN (s:=s) z0 z1 z2 hs).mono ?_);rintro e v1 ⟨B0,d0,B1,d1,B2,d2,rfl,aI,af⟩);have aZ:=aI.has;obtain⟨S0,ac,a7⟩:=aZ;have e8:=Re v1 (F #[G B0 s.fo.length d0,G B1 s.ft.length d1,G B2 s.ii.length d2,G C 0 0] 31);have ad:fu v1 (v1.alloc (F #[G B0 s.fo.length d0,G B1 s.ft.length d1,G B2 s.ii.length d2,G C 0 0] 31)):=gG;have a8:∀ b∈S0,b<v1.heap.size:=ac.lt;have ai:(v1.alloc (F #[G B0 s.fo.length d0,G B1 s.ft.length d1,G B2 s.ii.length d2,G C 0 0] 31)).heap.size=v1.heap.size+1:=Rz _ _;obtain⟨g8,aN⟩:∃ g,v1.heap.size=g:=⟨_,rfl⟩
 have b7:g6<Y.heap.size:=(iL e6).2.2.2.2.2;have b6:Y.heap.size<=g8:=by have:=af.size;omega
 rw[aN] at e8 a8 ai |-;clear aN;have ac:=ac.fy ad;have az:=(a6.trans af).trans ad;have e4:=zj (zj e4 af) ad;have e6:=zj (zj e6 af) ad;generalize (v1.alloc _)=Q7 at e8 e4 e6 ac az ad ai |-;have b4:=a6.size;have b5:g4<g8:=by have:=a5.out;have:=aV.out;have:=aW.out;omega
 have aH:g6<g8:=K9;have al:=fh (show ∀ b∈S0,w.heap.size<=b from fun b hb=>by have:=a7 b hb;omega);have ae:=fh a8;have am:=fh (show ∀ b∈S0,g6<b from fun b hb=>by have:=a7 b hb;omega);have aS:=fh ac;have aQ:=fh e4;have aR:=fh e6;have aE:=fh az;clear z0 z1 z2 x0 x1 x2 xf xl e5 aI af ad a7 a8 ac e4 e6 az a6 b4;go_loopw [9] (fun z9 wr=>∃(k:Nat) (a4:Q gE) (A5:X RJ) (c5:Nat) (S:Q Nat),z9=J Z k/\k<=2/\a4.length=k/\Hid (∀ i<k,a4[i]?=D (uh p b i).1/\(uh p b i).2=M)/\Hid (fx [g8] Q7 wr)/\Hid (wr.heap[g8]?=D (F #[G B0 s.fo.length d0,G B1 s.ft.length d1,G B2 s.ii.length d2,G A5 k c5] 31 (0,0)))/\Hid (Has (mn.sl 108) wr [G A5 k c5] a4 S)/\Hid (∀ b∈S,Q7.heap.size<=b)) (fun z9 _=>2-(RS z9).toNat)
 case atStart=>exact⟨0,[],C,0,[],rfl,Rl _,rfl,fh (fun i h=>absurd h (UR i)),fh (fx.refl _ _),fh e8,fh (Has.nil mn 108 Q7),fh (fun b hb=>by cases hb)⟩
 clear e8;obtain⟨k,a4,A5,c5,S,rfl,hk,au,HA,HO,ak,HH,HS⟩:=hrel;have a0:fu w wr:=HO.out.fy aE.out (fun b hb=>by simp only[Rc] at hb;omega);have e4:wr.heap[g4]?=D (F #[J Z b.M2,J Z b.IR,H b.Wz,H b.NE] 71 (0,0)):=(HO.out.block _ K9 (by simp;omega)).trans aQ.out;have e6:wr.heap[g6]?=D (F #[G C 0 0,G C 0 0,G C 0 0,G C 0 0] 31 (0,0)):=(HO.out.block _ K9 (by simp;omega)).trans aR.out;have b2:=HO.out.size;by_cases hlt:k<2
 ·have b1:(k:Int)<2:=K9
  have b9:Rg Z ((k:Int)+1)=(k:Int)+1:=iw;obtain⟨x0,x1,x2,x3,xf,xl⟩:=iL e4;have b0:k=0∨k=1:=K9;obtain⟨d,ok,ag⟩:∃ d ok,uh p b k=(d,ok):=⟨_,_,rfl⟩
  have HD:=fh ((aO.out k).trans ag);have aP:=fh ag;cases ok with
  | false=>
   have HN:=fh (show zW p b s=(⟨⟨[],[],[]⟩,[]⟩,I) from by
    rw[aC.out];refine Le (fun h=>?_);rcases b0 with rfl | rfl
    ·rw[ag] at h;exact absurd h.1 Bool.false_ne_true
    ·rw[ag] at h;exact absurd h.2.1 Bool.false_ne_true)
   clear ag
   go_wp2_with(first
    | (go_at_call 75;(with_reducible refine(aF.out k _ a0).mono ?_);rintro e v2 ⟨C0,f0,C1,f1,C2,f2,C3,f3,rfl,aq,a9⟩)
    | (go_at_call 74;(with_reducible refine(G9 (x:=oT p b (k:Int)) aq.read (fu.refl _) (aj.out k)).mono ?_);rintro e v3 ⟨rfl,aa⟩)
    | (go_at_call 73;(with_reducible refine(zoK _ _ (by have:=ES (aj.out k);omega)).mono ?_);rw[HD.out];rintro e v4 ⟨D0,q0,D1,q1,D2,q2,D3,q3,rfl,aJ,a5⟩;have ab:=(a9.trans aa).trans a5;have e6:=zj e6 ab;obtain⟨y0,y1,y2,y3,yf,yl⟩:=iL e6))
   have a2:=wM e6 (G C 0 0) (G C 0 0) (G C 0 0) (G C 0 0);have a1:=a2.2.fy (a0.trans ab) (by simp only[Rc];rintro b rfl;exact aB);obtain⟨r0,r1,r2,r3,_,_⟩:=iL (zj a2.1 (show fu _ (Su _ (F #[J Z d.Id,G D0 d.fm.length q0,G D1 d.fW.length q1,G D2 d.AC.length q2,G D3 d.fI.length q3] 108)) from gG));exact Rj (v:=.tuple #[.agg #[G C 0 0,G C 0 0,G C 0 0,G C 0 0],H I]) (by simp[Rv,results34,go_sem,r0,r1,r2,r3]) rfl (lZ.no HN.out (a1.trans gF))
  | true=>
   go_wp2_with(first
    | (go_at_call 75;(with_reducible refine(aF.out k _ a0).mono ?_);rintro e v2 ⟨C0,f0,C1,f1,C2,f2,C3,f3,rfl,aq,a9⟩)
    | (go_at_call 74;(with_reducible refine(G9 (x:=oT p b (k:Int)) aq.read (fu.refl _) (aj.out k)).mono ?_);rintro e v3 ⟨rfl,aa⟩)
    | (go_at_call 73;(with_reducible refine(zoK _ _ (by have:=ES (aj.out k);omega)).mono ?_);rw[HD.out];rintro e v4 ⟨D0,q0,D1,q1,D2,q2,D3,q3,rfl,aJ,a5⟩;have ab:=(a9.trans aa).trans a5;have e8:=zj ak.out (fu.trans (b:=v4) ab (show fu v4 (v4.alloc (F #[J Z d.Id,G D0 d.fm.length q0,G D1 d.fW.length q1,G D2 d.AC.length q2,G D3 d.fI.length q3] 108)) from gG));obtain⟨y0,y1,y2,y3,yf,yl⟩:=iL e8;obtain⟨SD,aX,ar⟩:=aJ.has)
    | (refine zJ (L:=k+1) rfl (.tmp 32) (.tmp 34) OU (S:=S) (HH.out.fy (ab.trans gF)) (aX.fy gF) (fun b hb hm=>by have h1:=ar b hm;have h2:=HH.out.lt b hb;have h3:=a9.size;have h4:=aa.size;omega) rfl rfl rfl (by intro j u hu;simpa[go_sem] using hu) rfl K9 K9 ?_))
   intro A9 c9 W9 S9 aA aK aM;have ah:g8∉S:=fun hm=>by have:=HS.out g8 hm;omega
   have e9:=(aA.block g8 (by have h3:=a9.size;have h4:=aa.size;have h5:=a5.size;simp;omega) ah).trans (zj e8 gF);obtain⟨m0,m1,m2,m3,mf,ml⟩:=iL e9;have aU:=fh aA;have aT:=fh aK;have aG:=fh aM;clear aA aK aM;go_wp2_with(fail);go_roundw
   case measure=>exact gM
   case rel=>
    have aY:fx [g8] Q7 W9:=fx.on HO.out (ab.trans gF) aU.out (fun x hx=>.inr (HS.out x hx));have h3:=a9.size;have h4:=aa.size;have h5:=a5.size;refine⟨k+1,a4++[d],A9,c9,S9,Ar,K9,by rw[Rh,au];rfl,fh (fun i hi=>?_),fh (aY.setCell II _),fh (zV e9 3 _),fh (aT.out.fJ ((fx.refl [g8] _).setCell II _) (fun b hb hm=>?_)),fh (fun b hb=>?_)⟩
    ·by_cases hik:i<k
     ·rw[SK K9]
      exact HA.out i hik
     ·obtain rfl:i=k:=K9
      rw[Sd K9,au,St,aP.out];exact⟨rfl,rfl⟩
    ·simp only[Rc] at hm
     subst hm;rcases aG.out b hb with h | h | h
     ·exact ah h
     ·have:=ar b h;omega
     ·(try simp at h);omega
    ·rcases aG.out b hb with h | h | h
     ·exact HS.out b h
     ·have:=ar b h;omega
     ·(try simp at h);omega
 ·obtain rfl:k=2:=K9
  have b1:¬ (((2:Nat):Int)<2):=K9
  obtain⟨x,y,b3⟩:∃ x y,a4 = [x,y]:=by
   match a4,au with
   | [x,y],_=>exact⟨_,_,rfl⟩
  subst b3;have an:=HA.out 0 K9;have ap:=HA.out 1 K9;have ex:x=(uh p b 0).1:=by simpa using an.1
  have ey:y=(uh p b 1).1:=by simpa using ap.1
  have HV:=fh (show zW p b s=if pG ⟨s,[x,y]⟩=M then (⟨s,[x,y]⟩,M) else (⟨⟨[],[],[]⟩,[]⟩,I) from by
   rw[aC.out];unfold Bc;rw[an.2,ap.2,<-ex,<-ey]
   simp only[U1])
  clear an ap ex ey;have aL:=aS.out.fJ HO.out (fun b hb hm=>by simp only[Rc] at hm;have:=ae.out b hb;omega);obtain⟨t0,t1,t2⟩:=CK aL.read;have t3:=HH.out.read;obtain⟨x0,x1,x2,x3,xf,xl⟩:=iL ak.out;obtain⟨y0,y1,y2,y3,yf,yl⟩:=iL e6;obtain⟨ao,av⟩:∃ ao,pG ⟨s,[x,y]⟩=ao:=⟨_,rfl⟩
  have aD:=fh av;cases ao with
  | false=>
   have HN:=fh (show zW p b s=(⟨⟨[],[],[]⟩,[]⟩,I) from by rw[HV.out,av];rfl);go_wp2_with(go_at_call 56;(with_reducible refine(Gg t0 t1 t2 t3 hs).mono ?_);rw[aD.out];rintro e v5 ⟨rfl,a3⟩;have e6:=zj e6 a3;obtain⟨y0,y1,y2,y3,yf,yl⟩:=iL e6);have a2:=wM e6 (G C 0 0) (G C 0 0) (G C 0 0) (G C 0 0);have a1:=a2.2.fy (a0.trans a3) (by simp only[Rc];rintro b rfl;exact aB);obtain⟨r0,r1,r2,r3,_,_⟩:=iL a2.1;exact Rj (v:=.tuple #[.agg #[G C 0 0,G C 0 0,G C 0 0,G C 0 0],H I]) (by simp[Rv,results34,go_sem,r0,r1,r2,r3]) rfl (lZ.no HN.out a1)
  | true=>
   have HN:=fh (show zW p b s=(⟨s,[x,y]⟩,M) from by rw[HV.out,av];rfl);go_wp2_with(go_at_call 56;(with_reducible refine(Gg t0 t1 t2 t3 hs).mono ?_);rw[aD.out];rintro e v5 ⟨rfl,a3⟩;have e6:=zj e6 a3;obtain⟨y0,y1,y2,y3,yf,yl⟩:=iL e6;have e8:=zj ak.out a3;obtain⟨x0,x1,x2,x3,xf,xl⟩:=iL e8);have a2:=wM e6 (G B0 s.fo.length d0) (G B1 s.ft.length d1) (G B2 s.ii.length d2) (G A5 2 c5);have a1:=a2.2.fy (a0.trans a3) (by simp only[Rc];rintro b rfl;exact aB);obtain⟨r0,r1,r2,r3,_,_⟩:=iL a2.1;have k0:=(aL.fy a3).fJ a2.2 (fun b hb hm=>by simp only[Rc] at hm;have:=am.out b hb;omega);have k1:=(HH.out.fy a3).fJ a2.2 (fun b hb hm=>by simp only[Rc] at hm;have:=HS.out b hb;omega);refine Rj (v:=.tuple #[.agg #[G B0 s.fo.length d0,G B1 s.ft.length d1,G B2 s.ii.length d2,G A5 2 c5],H M]) (by simp[Rv,results34,go_sem,r0,r1,r2,r3]) rfl ?_;rw[HN.out];exact⟨B0,d0,B1,d1,B2,d2,A5,c5,rfl,K6 (x:=⟨s,[x,y]⟩) (u0:=w) (m0:=g8) (u1:=Q7) (m1:=_) ⟨S0,k0.1,k0.2,fun b hb=>⟨al.out b hb,ae.out b hb⟩⟩ (PV k1 HS.out) (Ru _) aE.out.size (.inl K9),a1⟩
structure Static (P:Program)(n:FuncId):Prop where
 fn:∃ fn:Func,P.funcs[n]?=D fn/\fn.body.isNone=I/\(fn.name == "runtime.NumGoroutine")=I
theorem ML {n:FuncId} {args:Array Operand} {tys:Array R5} (hs:Static P n)(ho:o.op=.call { callee:=.value (.func n),args:=args,argTypes:=tys }) :
  (execOp a.eval o).run P w=.ok (.enter n (args.map a.eval)) w:=by
 obtain⟨a5,op,a4,a0,a1,a6⟩:=o;simp only at ho;subst ho;obtain⟨fn,hf,hb,hn⟩:=hs.fn;go_simp;have a3:¬ fn.name = "runtime.NumGoroutine":=by simpa using hn
 have a2:¬ fn.body=C:=by intro h;rw[h] at hb;cases hb
 simp[callFunc,hf,a3,a2,go_sem]
theorem rv {ops:Array Oper} {K:Act->U->Prop} {Q8:Exit->Act->U->Prop} {E:Prop} {n:FuncId} {args:Array Operand} {tys:Array R5} {vals:Array Value} {QW:Ending->U->Prop} (hs:Static P n)(hgd:o.guard=C)(ho:o.op=.call { callee:=.value (.func n),args:=args,argTypes:=tys })(hc:RD P n vals w QW)
  (he:args.map a.eval=vals) (h:∀ e w',QW e w'->∃ v,e=.returned v/\K (a.put o.dst v) w'):if RV o (Th ops a.tmps)=M then Oper.wp P o a w K Q8 else E:=by
 rw[Rs (by simp[RV,hgd])];unfold Oper.wp;rw[ML hs ho,Oper.upon_enter,he];refine hc.mono ?_;intro e w' hC;obtain⟨v,rfl,hk⟩:=h e w' hC;exact hk
theorem FE:Static prog 105:=⟨_,func105,rfl,qo⟩
theorem DG (HG:fu Y W)(o:Obj):fu W (W.alloc o)/\(W.alloc o).heap[W.heap.size]?=D o/\Y.heap.size<=W.heap.size:=⟨(fu.refl _).alloc _,Re _ _,HG.size⟩
theorem Jg {α:Type} {T:Ty α} {cs:Q Value} {x:α} (h:Has T W cs x S):∀ b∈S,b≠W.heap.size:=fun b hb=>UW (h.lt b hb)
theorem BI {o:Obj} (h:W.heap[g]?=D o):g≠W.heap.size:=UW (blt h)
theorem DJ {o:Obj} (hS:∀ b∈S,W.heap.size<=b)(h:W.heap[g]?=D o):∀ b∈S,b≠g:=fun b hb=>by have h1:=hS b hb;have h2:=(blt h);omega
theorem Jx (HG:fu Y W)(hS:∀ b∈S,W.heap.size<=b):∀ b∈S,Y.heap.size<=b:=fun b hb=>RG HG.size (hS b hb)
structure sT (Y W:U)(g l n:Nat)(S:Q Nat)(i0 i1:gv)(b0 b1:Int):Prop where
 fy:fu Y W
 bx:W.heap[g]?=D (F #[G (D ⟨l,0,C⟩) 2 2,G (D ⟨n,0,C⟩) 2 2,G C 0 0] 28 (0,0))
 wS:(iG.sl 103).O W [G (D ⟨l,0,C⟩) 2 2] [i0,i1] S
 BL:(zr.sl 3).O W [G (D ⟨n,0,C⟩) 2 2] [b0,b1] [n]
 si:∀ b∈S,Y.heap.size<=b/\b≠g
 sn:Y.heap.size<=n/\n≠g
 sg:Y.heap.size<=g
theorem sT.JB (HG:fu Y W)(el:W.heap[l]?=D (F #[V i0.Code,G A4 i0.fm.length c4,V i1.Code,G A5 i1.fm.length c5] 103 (0,0)))(en:W.heap[n]?=D (F #[J Z b0,J Z b1] 3 (0,0)))
  (eg:W.heap[g]?=D (F #[G C 0 0,G C 0 0,G C 0 0] 28 (0,0))) (hH4:Has (jm.sl 137) W [G A4 i0.fm.length c4] i0.fm S4) (hH5:Has (jm.sl 137) W [G A5 i1.fm.length c5] i1.fm S5) (z0:i0.Code.size<=9223372036854775807) (z1:i1.Code.size<=9223372036854775807)
  (q4:∀ b∈S4,Y.heap.size<=b) (q5:∀ b∈S5,Y.heap.size<=b) (ql:Y.heap.size<=l) (qn:Y.heap.size<=n) (qg:Y.heap.size<=g) (n4:∀ b∈S4,b≠g) (n5:∀ b∈S5,b≠g) (nl:l≠g) (nn:n≠g) (hb0:fE b0) (hb1:fE b1) {W':U}
  (hW:W'.heap[g]?=D (F #[G (D ⟨l,0,C⟩) 2 2,G (D ⟨n,0,C⟩) 2 2,G C 0 0] 28 (0,0))) (ho:fx [g] W W'):sT Y W' g l n (l::(S4++S5)) i0 i1 b0 b1:=by
 have k4:=hH4.fJ ho (fun b hb hm=>n4 b hb (by simpa using hm));have k5:=hH5.fJ ho (fun b hb hm=>n5 b hb (by simpa using hm));have kl:=(ho.block l (blt el) (by simpa using nl)).trans el;have kn:=(ho.block n (blt en) (by simpa using nn)).trans en;refine⟨ho.fy HG (fun b hb=>by simp only[Rc] at hb;omega),hW,?_,?_,fun b hb=>?_,⟨qn,nn⟩,qg⟩
 ·exact qi (T:=iG) (xs:=[i0,i1]) (S:=S4++S5) kl ⟨_,_,S4,S5,rfl,rfl,zt z0 k4.1,⟨_,[],S5,[],rfl,II,zt z1 k5.1,⟨rfl,rfl⟩⟩⟩ II
 ·exact qi (T:=zr) (xs:=[b0,b1]) (S:=[]) kn ⟨[J Z b0],[J Z b1],[],[],rfl,rfl,⟨rfl,hb0.1,hb0.2,rfl⟩,⟨[J Z b1],[],[],[],rfl,rfl,⟨rfl,hb1.1,hb1.2,rfl⟩,⟨rfl,rfl⟩⟩⟩ II
 ·rcases RO.1 hb with rfl | hb
  ·exact⟨ql,nl⟩
  ·rcases Rr.1 hb with hb | hb
   ·exact⟨q4 b hb,n4 b hb⟩
   ·exact⟨q5 b hb,n5 b hb⟩
theorem sT.of (HG:fu Y W)(el:W.heap[l]?=D (F #[V i0.Code,G A4 i0.fm.length c4,V i1.Code,G A5 i1.fm.length c5] 103 (0,0)))(en:W.heap[n]?=D (F #[J Z b0,J Z b1] 3 (0,0)))
  (eg:W.heap[g]?=D (F #[G C 0 0,G C 0 0,G C 0 0] 28 (0,0))) (hH4:Has (jm.sl 137) W [G A4 i0.fm.length c4] i0.fm S4) (hH5:Has (jm.sl 137) W [G A5 i1.fm.length c5] i1.fm S5) (z0:i0.Code.size<=9223372036854775807) (z1:i1.Code.size<=9223372036854775807)
  (q4:∀ b∈S4,Y.heap.size<=b) (q5:∀ b∈S5,Y.heap.size<=b) (ql:Y.heap.size<=l) (qn:Y.heap.size<=n) (qg:Y.heap.size<=g) (n4:∀ b∈S4,b≠g) (n5:∀ b∈S5,b≠g) (nl:l≠g) (nn:n≠g) (hb0:fE b0) (hb1:fE b1) :
  sT Y (((W.setCell ⟨g,0,C⟩ (G (D ⟨l,0,C⟩) 2 2)).setCell ⟨g,1,C⟩ (G (D ⟨n,0,C⟩) 2 2)).setCell ⟨g,2,C⟩ (G C 0 0)) g l n (l::(S4++S5)) i0 i1 b0 b1:=
 sT.JB HG el en eg hH4 hH5 z0 z1 q4 q5 ql qn qg n4 n5 nl nn hb0 hb1 (rR eg _ _ _).1 (rR eg _ _ _).2
structure nL (Q7 W:U)(g l n:Nat)(AE:X RJ)(nE cE:Nat)(es:Q Int)(SE:Q Nat):Prop where
 only:fx [g] Q7 W
 bx:W.heap[g]?=D (F #[G (D ⟨l,0,C⟩) 2 2,G (D ⟨n,0,C⟩) 2 2,G AE nE cE] 28 (0,0))
 xJ:Has (zr.sl 3) W [G AE nE cE] es SE
 lo:∀ b∈SE,Q7.heap.size<=b
 len:nE=es.length
theorem nL.more {W':U} (h:nL Q7 W g l n AE nE cE es SE)(hg:fu W W'):nL Q7 W' g l n AE nE cE es SE:=
 ⟨h.only.trans (hg.only _),zj h.bx hg,h.xJ.fy hg,h.lo,h.len⟩
theorem nL.push {W4:U} {B4:X RJ} {d4:Nat} {v:Int} (h:nL Q7 W g l n AE nE cE es SE)(hgV:g<Q7.heap.size)(hon:fx SE W W4)(hH4:Has (zr.sl 3) W4 [G B4 (nE+1) d4] (es++[v]) S4)(hS4:∀ b∈S4,b∈SE∨W.heap.size<=b) :
  (W4.heap[g]?=D (F #[G (D ⟨l,0,C⟩) 2 2,G (D ⟨n,0,C⟩) 2 2,G AE nE cE] 28 (0,0)))/\nL Q7 (W4.setCell ⟨g,2,C⟩ (G B4 (nE+1) d4)) g l n B4 (nE+1) d4 (es++[v]) S4:=by
 have a2:=h.only.size;have a1:g∉SE:=fun hm=>by have:=h.lo g hm;omega
 have a0:=(hon.block g K9 a1).trans h.bx;have o5:fx [g] W4 (W4.setCell ⟨g,2,C⟩ (G B4 (nE+1) d4)):=(fx.refl [g] W4).setCell II _;have e5:=zV a0 2 (G B4 (nE+1) d4);simp only[TS,List.set_cons_zero,List.set_cons_succ] at e5;refine⟨a0,(h.only.then hon (fun b hb=>.inr (h.lo b hb))).trans o5,e5,hH4.fJ o5 (fun b hb hm=>?_),fun b hb=>?_,by rw[Rh,h.len];rfl⟩
 ·simp only[Rc] at hm
  subst hm;rcases hS4 b hb with h1 | h1
  ·exact a1 h1
  ·omega
 ·rcases hS4 b hb with h1 | h1
  ·exact h.lo b h1
  ·omega
theorem nL.xK (HV:sT Y Q7 g l n S i0 i1 b0 b1)(h:nL Q7 W g l n AE nE cE es SE):(iG.sl 103).O W [G (D ⟨l,0,C⟩) 2 2] [i0,i1] S:=
 (iG.sl 103).gD HV.wS (fun b hb=>h.only.block b ((iG.sl 103).iY HV.wS b hb) (by simpa using(HV.si b hb).2))
theorem nL.xI (HV:sT Y Q7 g l n S i0 i1 b0 b1)(h:nL Q7 W g l n AE nE cE es SE):(zr.sl 3).O W [G (D ⟨n,0,C⟩) 2 2] [b0,b1] [n]:=
 (zr.sl 3).gD HV.BL (fun b hb=>h.only.block b ((zr.sl 3).iY HV.BL b hb) (by rw[Rc.1 hb];simpa using HV.sn.2))
theorem NI (h0:(iG.sl 103).R w w.heap.size [G A0 2 c0] [i0,i1])(h1:(zr.sl 3).R w w.heap.size [G A1 2 c1] [b0,b1])
  (h2:(zr.sl 3).R w w.heap.size [G A2 n c2] es) (hn:n=es.length) (hs:jE ⟨[i0,i1],[b0,b1],es⟩<=1099511627776) :
  RD prog 41 #[.agg #[G A0 2 c0,G A1 2 c1,G A2 n c2]] w fun r w'=>r=.returned (H (zZ ⟨[i0,i1],[b0,b1],es⟩))/\fu w w':=by
 subst hn;exact zbG (s:=⟨[i0,i1],[b0,b1],es⟩) h0 h1 h2 hs
def xr (i:gv)(base:Int)(nm:N)(k:Nat):Q Int:=((i.fm.drop k).filter fun x=>decide (x.pu=nm)).map fun x=>base+x.kw
theorem KA (h:i.fm.length<=k):xr i base nm k = []:=by unfold xr;rw[Tw h];rfl
theorem EV {x:fC} (h:i.fm[k]?=D x):xr i base nm k=(if x.pu=nm then [base+x.kw] else [])++xr i base nm (k+1):=by
 obtain⟨h1,rfl⟩:=Rd.1 h;unfold xr;rw[Rw h1,TC];by_cases hc:i.fm[k].pu=nm
 ·simp[hc]
 ·simp[hc]
theorem Pa {f:Nat} (h:f<=3):bits .and Z (f:Int) 1=((f % 2:Nat):Int):=by
 have:f=0∨f=1∨f=2∨f=3:=K9;rcases this with rfl | rfl | rfl | rfl <;> decide
def Qj (s:gk)(w:U)(e:Ending)(w':U):Prop:=∃ A0 c0 A1 c1 A2 c2 S,e=.returned (.tuple #[.agg #[G A0 s.fo.length c0,G A1 s.ft.length c1,G A2 s.ii.length c2],H M])/\kY.O w' [G A0 s.fo.length c0,G A1 s.ft.length c1,G A2 s.ii.length c2] s S/\(∀ q∈S,w.heap.size<=q)/\fu w w'
theorem IF:∀ l:Q fC,(l.map s9).sum+l.length<=lU l
 | []=>Ru _
 | x::l=>by
  have:=IF l;simp only[lU,Sz,Tu,RA,s9] at this |-;omega
theorem Hk {k:Int} (hp:zx p=M)(hS:oD p)(hb:jP b=M)(hk:fP k 0 1=M):mb (jz p b k)<=2000000:=by
 have h1:=(xk (image:=k) hp hS hb hk).1;simp only[jw,Rq,RC] at h1;have h2:=(DT p b k).WB;unfold oT at h2;rw[Rs ⟨hp,hb,hk⟩] at h2;have h3:=IF (jz p b k).fm;unfold mb lI;simp only at h2;have:=h1.1;omega
theorem CV (hp:zx p=M)(hS:oD p)(h4:(zq p).length<=4)(hb:jP b=M)(h0:1<=b0/\b0<=9000)(h1:20000<=b1/\b1<=1000000):jE (zn p b b0 b1)<=10000000:=by
 have k0:=Hk (k:=0) hp hS hb rfl;have k1:=Hk (k:=1) hp hS hb rfl;have k2:=zh hp hS hb (b0:=b0) (b1:=b1) (zq p).length 0 K9;unfold jE zn lI;simp only[k2,RA,RR,Sz,List.map_nil,Tu,List.sum_nil];omega
theorem Kh (hp:zx p=M)(hS:oD p)(hb:jP b=M):∀ i∈[jz p b 0,jz p b 1],∀ x∈i.fm,0<=x.kw/\x.kw<=1000000:=by
 have a0:∀ k:Int,fP k 0 1=M->∀ x∈(jz p b k).fm,0<=x.kw/\x.kw<=1000000:=by
  intro k hk x hx;have h1:=(xk (image:=k) hp hS hb hk).1;simp only[jw,Rq,RC] at h1;have h2:=AR h1.1 _ _ _ 0 h1.2 x hx;have:=h1.1;omega
 intro i hi;simp only[RO,Sq,Tm] at hi;rcases hi with rfl | rfl
 ·exact a0 0 rfl
 ·exact a0 1 rfl
theorem zpq (hx:(zQ.sl 99).R w w.heap.size [G A p.length c] p)(hD:iA p)(hb:jP b=M)(h0:1<=b0/\b0<=9000)(h1:20000<=b1/\b1<=1000000) :
  RD prog 70 #[G A p.length c,.agg #[J Z b.M2,J Z b.IR,H b.Wz,H b.NE],J Z b0,J Z b1] w (Qj (zn p b b0 b1) w):=by
 obtain⟨bF,bI,a0,bS⟩:=b;have aD:=Ee hD.ok hD.short hD.four hb h0 h1;have bG:=fh (fun w=>ye (b:=⟨bF,bI,a0,bS⟩) (w:=w));have bM:=fh hD.ok;have bE:=fh hb;have hl:=hD.len;have bL:=fh hD.parts;have ar:=fh (fun(W:U) (h:(zQ.sl 99).R W W.heap.size [G A p.length c] p)=>zhX (w:=W) (A:=A) (c:=c) (b:=⟨bF,bI,a0,bS⟩) (image:=0) h K9 hD.parts);have au:=fh (fun(W:U) (h:(zQ.sl 99).R W W.heap.size [G A p.length c] p)=>zhX (w:=W) (A:=A) (c:=c) (b:=⟨bF,bI,a0,bS⟩) (image:=1) h K9 hD.parts);have c2:fE b0:=⟨K9,K9⟩
 have c3:fE b1:=⟨K9,K9⟩
 have bl:=fh (show zn p ⟨bF,bI,a0,bS⟩ b0 b1=⟨[jz p ⟨bF,bI,a0,bS⟩ 0,jz p ⟨bF,bI,a0,bS⟩ 1],[b0,b1],qG p ⟨bF,bI,a0,bS⟩ (jz p ⟨bF,bI,a0,bS⟩ 0) (jz p ⟨bF,bI,a0,bS⟩ 1) b0 b1 (zq p).length 0⟩ from rfl);have ah:=fh (CV hD.ok hD.short hD.four hb h0 h1);have aR:=fh (Kh hD.ok hD.short hb);have a2:=fh (zh hD.ok hD.short hb (b0:=b0) (b1:=b1) (zq p).length 0 K9)
 have z0:(jz p ⟨bF,bI,a0,bS⟩ 0).Code.size<=1000000:=by
  have:=(xk (image:=0) hD.ok hD.short hb rfl).1;simp only[jw,Rq,RC] at this;exact this.1
 have z1:(jz p ⟨bF,bI,a0,bS⟩ 1).Code.size<=1000000:=by
  have:=(xk (image:=1) hD.ok hD.short hb rfl).1;simp only[jw,Rq,RC] at this;exact this.1
 rw[bl.out] at aD ah |-;generalize jz p ⟨bF,bI,a0,bS⟩ 0=i0 at ar a2 ah aR aD z0 |-;generalize jz p ⟨bF,bI,a0,bS⟩ 1=i1 at au a2 ah aR aD z1 |-;have aQ:=fh aD;clear aD bl hb;have z0:i0.Code.size<=9223372036854775807:=K9;have z1:i1.Code.size<=9223372036854775807:=K9;obtain⟨nf,aL⟩:∃ nf,(zq p).length=nf:=⟨_,rfl⟩
 have bi:=hD.four;rw[aL] at a2 aQ ah bi;have ax:=fh aL;obtain⟨aM,aj⟩:∃ aM,qG p ⟨bF,bI,a0,bS⟩ i0 i1 b0 b1 nf 0=aM:=⟨_,rfl⟩
 rw[aL];rw[aj] at a2 aQ ah |-;have aT:=fh aj;clear aj aL;have EB:=Re w (F #[J Z bF,J Z bI,H a0,H bS] 71);have ER:((w.alloc (F #[J Z bF,J Z bI,H a0,H bS] 71)).alloc (F #[G C 0 0,G C 0 0,G C 0 0] 28)).heap[w.heap.size+1]?=D (F #[G C 0 0,G C 0 0,G C 0 0] 28 (0,0)):=by have h:=Re (w.alloc (F #[J Z bF,J Z bI,H a0,H bS] 71)) (F #[G C 0 0,G C 0 0,G C 0 0] 28);rw[Rz] at h;exact h
 have EB:=zj EB (show fu _ ((w.alloc (F #[J Z bF,J Z bI,H a0,H bS] 71)).alloc (F #[G C 0 0,G C 0 0,G C 0 0] 28)) from gG);have bs:fu w ((w.alloc (F #[J Z bF,J Z bI,H a0,H bS] 71)).alloc (F #[G C 0 0,G C 0 0,G C 0 0] 28)):=gG;have ag:=fh EB;have a8:=fh ER;clear EB ER;go_enter func70,ntmps70;go_upto_region 3 with(first | (go_at_call 102;(with_reducible refine(zaK (Ty.up _ hx bs) K9 bL.out).mono ?_);rw[bM.out];rintro e w1 ⟨rfl,ba⟩;have ag:=fh (zj ag.out ba);have a8:=fh (zj a8.out ba);have aw:=fh (bs.trans ba);obtain⟨x0,x1,x2,x3,xf,xl⟩:=iL ag.out) | (go_at_call 104;(with_reducible refine(bG.out _).mono ?_);rw[bE.out];rintro e Y ⟨rfl,bb⟩;have ag:=fh (zj ag.out bb);have a8:=fh (zj a8.out bb);have aw:=fh (aw.out.trans bb);obtain⟨x0,x1,x2,x3,xf,xl⟩:=iL ag.out));obtain⟨g5,bc⟩:∃ q,w.heap.size=q:=⟨_,rfl⟩
 obtain⟨g8,bd⟩:∃ q,g5+1=q:=⟨_,rfl⟩
 rw[bc] at ag a8 x0 x1 x2 x3 xl |-;rw[bd] at a8 |-;have bH:=fh bc;have bJ:=fh bd;have HX:=fh (Ty.up _ hx aw.out);clear bc bd xf;go_cut [10] from 24 to 35 (fun v wx=>∃ g l n S,v=.pointer (D ⟨g,0,C⟩)/\sT Y wx g l n S i0 i1 b0 b1)
 case first=>
  have SB:∀{W9:U},fu Y W9->Rb W9 ⟨g5,0,C⟩=D (J Z bF)/\Rb W9 ⟨g5,1,C⟩=D (J Z bI)/\Rb W9 ⟨g5,2,C⟩=D (H a0)/\Rb W9 ⟨g5,3,C⟩=D (H bS):=fun h=>⟨za h x0,za h x1,za h x2,za h x3⟩;refine zX (fun w'=>Rb w' ⟨g5,0,C⟩=D (J Z bF)/\Rb w' ⟨g5,1,C⟩=D (J Z bI)/\Rb w' ⟨g5,2,C⟩=D (H a0)/\Rb w' ⟨g5,3,C⟩=D (H bS)) 12 Fs ⟨zc x0,zc x1,zc x2,zc x3⟩ (fun hH=>?_);have HG:fu Y Y.drew:=(fu.refl _).drew;generalize Y.drew=Wx at HG hH |-
  repeat' first
   | (revert hK;intro hK
      first
       | ((fail_if_success clear D2)
          refine rv FE rfl rfl (ar.out _ (Ty.up _ HX.out HG)) ?_ ?_
          ·go_simp
          rintro e Wx ⟨A4,c4,S4,rfl,a3,ao,hg⟩
          refine⟨_,rfl,?_⟩
          try have n4:=DJ ao eg
          have q4:=Jx HG ao
          try have a4:=a4.fy hg
          try have el:=zj el hg
          try have en:=zj en hg
          try have eg:=zj eg hg
          have HG:=HG.trans hg
          clear hg ao
          refine hK.out _ _ (SB HG) ?_
          clear hK
          have D2:=trivial
          try simp only[gJ])
       | ((fail_if_success clear D5)
          refine rv FE rfl rfl (au.out _ (Ty.up _ HX.out HG)) ?_ ?_
          ·go_simp
          rintro e Wx ⟨A5,c5,S5,rfl,a4,b4,hg⟩
          refine⟨_,rfl,?_⟩
          try have n5:=DJ b4 eg
          have q5:=Jx HG b4
          try have a3:=a3.fy hg
          try have el:=zj el hg
          try have en:=zj en hg
          try have eg:=zj eg hg
          have HG:=HG.trans hg
          clear hg b4
          refine hK.out _ _ (SB HG) ?_
          clear hK
          have D5:=trivial
          try simp only[gJ])
       | (go_simp
          first
           | ((fail_if_success clear D6)
              obtain⟨hg,el,ql⟩:=DG HG (F #[V i0.Code,G A4 i0.fm.length c4,V i1.Code,G A5 i1.fm.length c5] 103)
              refine hK.out _ _ (SB (HG.trans hg)) ?_
              try have nl:=(BI eg).symm
              clear hK
              try have a3:=a3.fy hg
              try have a4:=a4.fy hg
              try have en:=zj en hg
              try have eg:=zj eg hg
              have HG:=HG.trans hg
              clear hg
              generalize hx:Wx.heap.size=l at el ql |-
              try rw[hx] at nl
              clear hx
              obtain⟨Wx,hW⟩:∃ Q7,Su Wx (F #[V i0.Code,G A4 i0.fm.length c4,V i1.Code,G A5 i1.fm.length c5] 103)=Q7:=⟨_,rfl⟩
              rw[hW] at el HG |-
              try rw[hW] at a3
              try rw[hW] at a4
              try rw[hW] at en
              try rw[hW] at eg
              clear hW
              have D6:=trivial
              try simp only[gJ])
           | ((fail_if_success clear D9)
              obtain⟨hg,en,qn⟩:=DG HG (F #[J Z b0,J Z b1] 3)
              refine hK.out _ _ (SB (HG.trans hg)) ?_
              try have nn:=(BI eg).symm
              clear hK
              try have a3:=a3.fy hg
              try have a4:=a4.fy hg
              try have el:=zj el hg
              try have eg:=zj eg hg
              have HG:=HG.trans hg
              clear hg
              generalize hx:Wx.heap.size=n at en qn |-
              try rw[hx] at nn
              clear hx
              obtain⟨Wx,hW⟩:∃ Q7,Su Wx (F #[J Z b0,J Z b1] 3)=Q7:=⟨_,rfl⟩
              rw[hW] at en HG |-
              try rw[hW] at a3
              try rw[hW] at a4
              try rw[hW] at el
              try rw[hW] at eg
              clear hW
              have D9:=trivial
              try simp only[gJ])
           | ((fail_if_success clear a1)
              obtain⟨hg,eg,qg⟩:=DG HG (F #[G C 0 0,G C 0 0,G C 0 0] 28)
              refine hK.out _ _ (SB (HG.trans hg)) ?_
              try have n4:=Jg a3
              try have n5:=Jg a4
              try have nl:=BI el
              try have nn:=BI en
              clear hK
              try have a3:=a3.fy hg
              try have a4:=a4.fy hg
              try have el:=zj el hg
              try have en:=zj en hg
              have HG:=HG.trans hg
              clear hg
              generalize hx:Wx.heap.size=g at eg qg |-
              try rw[hx] at n4
              try rw[hx] at n5
              try rw[hx] at nl
              try rw[hx] at nn
              clear hx
              obtain⟨Wx,hW⟩:∃ Q7,Su Wx (F #[G C 0 0,G C 0 0,G C 0 0] 28)=Q7:=⟨_,rfl⟩
              rw[hW] at eg HG |-
              try rw[hW] at a3
              try rw[hW] at a4
              try rw[hW] at el
              try rw[hW] at en
              clear hW
              have a1:=trivial
              try simp only[gJ])))
   | ((fail_if_success clear T0);refine fA.st 0 [12] (SB HG) ?_;have T0:=trivial;try simp only[gJ])
   | ((fail_if_success clear T1);refine fA.st 1 [12] (SB HG) ?_;have T1:=trivial;try simp only[gJ])
   | ((fail_if_success clear T3);refine fA.st 3 [12] (SB HG) ?_;have T3:=trivial;try simp only[gJ])
   | ((fail_if_success clear T4);refine fA.st 4 [12] (SB HG) ?_;have T4:=trivial;try simp only[gJ])
   | ((fail_if_success clear T7);refine fA.st 7 [12] (SB HG) ?_;have T7:=trivial;try simp only[gJ])
   | ((fail_if_success clear T8);refine fA.st 8 [12] (SB HG) ?_;have T8:=trivial;try simp only[gJ])
   | ((fail_if_success clear bP);revert D2 D5 D6 D9;intro D2 D5 D6 D9;refine fA.st 10 [12] (SB HG) ?_;have bP:=trivial;try simp only[gJ])
   | (revert D2 D5 D6 D9 a1;intro D2 D5 D6 D9 a1
      refine fA.sl (fun K hK=>?_)
      obtain⟨k0,k1,k2,kf,kl⟩:=iS eg
      go_simp
      refine hK.out _ _ ?_
      clear hK
      try simp only[gJ]
      have HV:=sT.of HG el en eg a3 a4 z0 z1 q4 q5 ql qn qg n4 n5 nl nn c2 c3
      go_wp2_with(fail)
      go_meet
      exact⟨_,_,_,_,rfl,HV⟩)
   | (revert D2 D5 D6 D9;intro D2 D5 D6 D9;refine fA.s1 11 (fun K hK=>?_))
   | (revert D2 D5 D6 a1;intro D2 D5 D6 a1;refine fA.s1 9 (fun K hK=>?_))
   | (revert D2 D5 D9 a1;intro D2 D5 D9 a1;refine fA.s1 6 (fun K hK=>?_))
   | (revert D2 D5 D6;intro D2 D5 D6;refine fA.s2 9 11 (fun K hK=>?_) (fun K hK=>?_))
   | (revert D2 D5 D9;intro D2 D5 D9;refine fA.s2 6 11 (fun K hK=>?_) (fun K hK=>?_))
   | (revert D2 D5 a1;intro D2 D5 a1;refine fA.s2 6 9 (fun K hK=>?_) (fun K hK=>?_))
   | (revert D2 D9 a1;intro D2 D9 a1;refine fA.s1 5 (fun K hK=>?_))
   | (revert D2 D5;intro D2 D5;refine fA.s3 6 9 11 (fun K hK=>?_) (fun K hK=>?_) (fun K hK=>?_))
   | (revert D2 D9;intro D2 D9;refine fA.s2 5 11 (fun K hK=>?_) (fun K hK=>?_))
   | (revert D2 a1;intro D2 a1;refine fA.s2 5 9 (fun K hK=>?_) (fun K hK=>?_))
   | (revert D9 a1;intro D9 a1;refine fA.s1 2 (fun K hK=>?_))
   | (revert D2;intro D2;refine fA.s3 5 9 11 (fun K hK=>?_) (fun K hK=>?_) (fun K hK=>?_))
   | (revert D9;intro D9;refine fA.s2 2 11 (fun K hK=>?_) (fun K hK=>?_))
   | (revert a1;intro a1;refine fA.s2 2 9 (fun K hK=>?_) (fun K hK=>?_))
   | (refine fA.s3 2 9 11 (fun K hK=>?_) (fun K hK=>?_) (fun K hK=>?_))
 obtain⟨g,l,n,SI,rfl,HV⟩:=hcut;have aI:=HV.fy;generalize hV:wc=Q7 at HV aI |-;clear hV;go_wp2_with(fail);go_loopw [11] (fun z wr=>∃(f nE:Nat) (AE:X RJ) (cE:Nat) (es:Q Int) (SE:Q Nat),z=J Z f/\f<=nf/\Hid (es++qG p ⟨bF,bI,a0,bS⟩ i0 i1 b0 b1 (nf-f) f=aM)/\Hid (nL Q7 wr g l n AE nE cE es SE)) (fun z _=>nf-(RS z).toNat)
 case atStart=>exact⟨0,0,C,0,[],[],rfl,Rl _,fh (by rw[Nat.sub_zero];exact aT.out),fh ⟨fx.refl _ _,HV.bx,Has.nil _ _ _,fun b hb=>(by cases hb),rfl⟩⟩
 obtain⟨f,nE,AE,cE,es,SE,rfl,hf,bk,HW⟩:=hrel;have ct:=HV.sg;have ay:fu Y wr:=HW.out.only.fy aI (fun b hb=>by simp only[Rc] at hb;omega);by_cases hlt:f<nf
 ·have bh:(f:Int)<((zq p).length:Int):=by rw[ax.out];omega
  have cB:Rg Z ((f:Int)+1)=(f:Int)+1:=iw;have az:=Ty.up _ HX.out ay;go_upto_region 7 with(go_at_call 106;(with_reducible refine(zbI az K9).mono ?_);rintro e W1 ⟨B1,d1,T1,rfl,b2,b5,al⟩);have a5:=HW.out.more al;have am:=ay.trans al;obtain⟨x0,x1,x2,x3,xf,xl⟩:=iL (zj ag.out am);obtain⟨im,ad⟩:∃ im:Nat,(if bS=M/\f % 2=1 then 1 else 0)=im:=⟨_,rfl⟩
  have ae:im<2:=by rw[<-ad];split <;> omega
  have aA:=Pa (show f<=3 from K9);go_upto_if 43 with(fail)
  go_cut [12] from 44 to 46 (fun v wx=>v=J Z (im:Int)/\W1=wx)
  case first=>
   cases bS with
   | true=>
    have aG:((f % 2:Nat):Int)=(im:Int):=by
     rw[<-ad];by_cases h:f % 2=1
     ·rw[Rs ⟨rfl,h⟩];omega
     ·rw[Ro (fun hh=>h hh.2)];omega
    rw[aG] at aA;clear ad aG;go_wp2_with(fail);go_meet;exact⟨rfl,rfl⟩
   | false=>
    have aG:im=0:=by rw[<-ad,Ro (fun hh=>by cases hh.1)]
    subst aG;clear ad;go_wp2_with(fail);go_meet;exact⟨rfl,rfl⟩
  obtain⟨rfl,rfl⟩:=hcut;obtain⟨QZ,an⟩:∃ QZ,[i0,i1][im]?=D QZ:=⟨_,Rn (by simpa using ae)⟩
  obtain⟨bv,b7⟩:∃ bv,[b0,b1][im]?=D bv:=⟨_,Rn (by simpa using ae)⟩
  have c6:1<=bv/\bv<=1000000:=by
   have:bv=b0∨bv=b1:=by
    have:=Rt b7;simpa using this
   omega
  obtain⟨ln,bg⟩:∃ v,(zq p)[f]?=D v:=⟨_,Rn (by rw[ax.out];exact hlt)⟩
  obtain⟨j,rfl,aN,af,_⟩:=wk bg;have cf:=(Rd.1 af).1;have aP:=fh an;have aO:=fh b7;have bm:=fh bg;have bO:=fh af;have bK:=fh (xm af);have aS:=fh (aR.out QZ (Rt an))
  have cp:QZ.fm.length<=10000000:=by
   have h1:=ah.out;have h2:=tS mb (xs:=[i0,i1]) an;unfold jE at h1;have h4:mb QZ=QZ.Code.size+lI s9 QZ.fm:=rfl;have h3:=yC s9 QZ.fm;simp only at h1;omega
  clear an b7 bg af aA x0 x1 x2 x3 xf xl am b2 b5 al az ay;have bN:=fh a5;have av:=bk;go_wp2_with(fail);go_loopw [13] (fun z wr=>∃(k nE:Nat) (AE:X RJ) (cE:Nat) (ak:Q Int) (SE:Q Nat),z=J Z k/\k<=QZ.fm.length/\Hid (ak++xr QZ bv aN.pu k=es++qK QZ bv aN.pu)/\Hid (nL Q7 wr g l n AE nE cE ak SE)) (fun z _=>QZ.fm.length-(RS z).toNat)
  case atStart=>exact⟨0,nE,AE,cE,es,SE,rfl,Rl _,fh rfl,fh a5⟩
  clear a5 bN HW
  case round=>
   obtain⟨k,nE,AE,cE,ak,SE,rfl,hk,aE,HW⟩:=hrel;have bp:fu Y wr:=HW.out.only.fy aI (fun b hb=>by simp only[Rc] at hb;omega);have br:=Ty.up _ HX.out bp;obtain⟨y0,y1,y2,yf,yl⟩:=iS HW.out.bx;obtain⟨gI,oI,I',A0,c0,aV,cu,an,bn,bo,_,bz⟩:=qI (Ty.read _ (nL.xK HV HW.out)) (k:=im) (by simpa using ae);injection aV with aV
   injection aV with e1 e2
   subst e1 e2;simp only[RF] at bn bo;obtain rfl:I'=QZ:=by have:=aP.out;rw[an] at this;injection this
   have ce:(im:Int)<2:=K9;by_cases hkl:k<I'.fm.length
   ·have bf:(k:Int)<(I'.fm.length:Int):=K9
    have cC:Rg Z ((k:Int)+1)=(k:Int)+1:=iw;obtain⟨gs,os,x,bV,cv,bj,s0,s1,s2,_,cz,_⟩:=qD bz (k:=k) hkl;subst bV;go_upto_region 14 with(fail);have ex:=Re wr (F #[V x.pu,J Z x.kw,J Z x.gH] 137);have aJ:fu wr (wr.alloc (F #[V x.pu,J Z x.kw,J Z x.gH] 137)):=(fu.refl _).alloc _;have b6:=HW.out.more aJ;have aH:=Ty.up _ br aJ;have be:Q7.heap.size<=wr.heap.size:=HW.out.only.size;have bD:wr.heap.size∉SE:=fun hm=>Uo _ (HW.out.xJ.lt _ hm);have cl:wr.heap.size≠g:=Ut (blt HW.out.bx);obtain⟨gx,bu⟩:∃ q,wr.heap.size=q:=⟨_,rfl⟩
    rw[bu] at ex be bD cl |-;generalize (wr.alloc _)=Q9 at ex aJ b6 aH |-;clear bu aJ bp br y0 y1 y2 yf yl bn bo bz s0 s1 s2 HW;obtain⟨t0,t1,t2,tf,tl⟩:=iS ex;have aU:=fh b6;obtain⟨gp,op,yl,B0,d0,B2,d2,bT,cd,bB,_,pc,_⟩:=lS aH (k:=j) cf;obtain rfl:yl=aN:=by have:=bO.out;rw[bB] at this;injection this
    subst bT;have cw:(j:Int)<(p.length:Int):=K9;go_cut [77] from 66 to 78 (fun v wx=>v=H (decide (x.pu=yl.pu))/\Hid (fu Q9 wx))
    case first=>
     go_region_law (first | (go_simp;go_at_call 106;refine(zbI (Ty.up _ aH (fu.drew (fu.refl _))) K9).mono ?_;rintro e W2 ⟨B3,d3,T3,rfl,bZ,cq,aZ⟩;have aY:=fu.trans (fu.drew (fu.refl Q9)) aZ;obtain⟨gq,oq,vq,bU,ci,cs,_⟩:=lJ bZ.read (k:=f) (by rw[ax.out];exact hlt);subst bU;obtain rfl:vq=(j:Int):=(by have:=bm.out;rw[ci] at this;injection this);have t0:=za aY t0;have pc:=za aY pc;have cy:(f:Int)<((zq p).length:Int):=(by rw[ax.out];omega)))
     all_goals
      go_wp2_with(fail)
      go_meet
      refine⟨?_,fh aY⟩
      rw[lC]
    obtain⟨rfl,aF⟩:=hcut;have a6:=fh (aU.out.more aF.out);have bq:=fh (za aF.out t1);have ai:gx<wc.heap.size:=Ri tl aF.out.size;have ca:=fh (aU.out.only.size);have aB:g<Q7.heap.size:=(iS HV.bx).2.2.2.2;have bC:g∉SE:=fun hm=>by have:=a6.out.lo g hm;omega
    have ch:n<Q7.heap.size:=(zr.sl 3).iY HV.BL n (.head _);have ck:n∉SE:=fun hm=>by have:=a6.out.lo n hm;omega
    have c8:nE<=10000010:=by
     have h1:=Ta List.length aE.out;have h2:=Ta List.length av.out;have h3:=a6.out.len;have h4:(qK I' bv yl.pu).length<=I'.fm.length:=by unfold qK;rw[Uy];exact TU _ _
     have h5:=a2.out;simp only[Rh] at h1 h2;omega
    clear t0 t1 t2 tf tl ex b6 aH pc bB cd;by_cases hnm:x.pu=yl.pu
    ·rw[Rp hnm]
     have cj:=aS.out x (Rt bj);have cD:Rg Z (bv+x.kw)=bv+x.kw:=iw;obtain⟨gb,ob,bQ,aW,b8,b9,_⟩:=lJ (Ty.read _ (nL.xI HV a6.out)) (k:=im) (by simpa using ae);injection aW with aW
     injection aW with e1 e2
     subst e1 e2;obtain rfl:bv=bQ:=by have:=aO.out;rw[b8] at this;injection this with this;exact this.symm
     simp only[RF] at b9;obtain⟨y0,y1,y2,yf,cm⟩:=iS a6.out.bx;have bA:=bq.out;go_upto_region 15 with(fail);have aK:fu wc wc.drew:=(fu.refl _).drew;refine zX (fun w'=>Rb w' ⟨g,2,C⟩=D (G AE nE cE)/\Rb w' ⟨g,1,C⟩=D (G (D ⟨n,0,C⟩) 2 2)/\Rb w' ⟨n,im,C⟩=D (J Z bv)/\Rb w' ⟨gx,1,C⟩=D (J Z x.kw)) 13 Fs ⟨zc y2,zc y1,zc b9,zc bA⟩ (fun hH=>?_);have a6:=fh (a6.out.more aK);have ai:gx<wc.drew.heap.size:=ai;obtain⟨a9,aa,ab,ac⟩:=id hH;generalize wc.drew=Wx at a6 ai a9 aa ab ac hH |-;clear aK y0 y1 y2 yf cm b9 bA bq aF aU;refine .tq 0 [13] hH ?_
     try simp only[gJ]
     refine .tq 1 [13] hH ?_
     try simp only[gJ]
     refine .tq 2 [13] hH ?_
     try simp only[gJ]
     refine .tq 3 [13] hH ?_
     try simp only[gJ]
     refine .tq 4 [13] hH ?_
     try simp only[gJ]
     refine .tq 5 [13] hH ?_
     try simp only[gJ]
     refine .tq 6 [13] hH ?_
     try simp only[gJ]
     refine .tq 7 [13] hH ?_
     try simp only[gJ]
     refine .tq 8 [13] hH ?_
     try simp only[gJ]
     refine .tq 9 [13] hH ?_
     try simp only[gJ]
     refine fA.s1 10 (fun K hK=>?_);go_simp;have hg:fu Wx (Wx.alloc (F #[J Z (bv+x.kw)] 3)):=(fu.refl _).alloc _;have eq:=Re Wx (F #[J Z (bv+x.kw)] 3);have ap:=fh (a6.out.more hg);have a9:=za hg a9;have aa:=za hg aa;have ab:=za hg ab;have ac:=za hg ac;clear hg;refine hK.out _ _ ⟨a9,aa,ab,ac⟩ ?_;clear hK;have aC:gx<(Su Wx (F #[J Z (bv+x.kw)] 3)).heap.size:=by rw[Rz];omega
     obtain⟨gq,bt⟩:∃ q,Wx.heap.size=q:=⟨_,rfl⟩
     rw[bt] at eq |-;clear bt a6;generalize Su Wx (F #[J Z (bv+x.kw)] 3)=Wq at eq ap a9 aa ab ac aC |-
     try simp only[gJ]
     refine fA.s1 11 (fun K hK=>?_);have cg:zr.R Wq Wq.heap.size [J Z (bv+x.kw)] (bv+x.kw):=⟨rfl,K9,K9⟩
     refine pY (L:=nE+1) rfl (.tmp 79) (.tmp 88) lN zE ap.out.xJ cg rfl rfl rfl (by intro j u hu;rw[Sw Wq gq _ _ _ (0,0) eq];simpa using hu) rfl K9 K9 ?_;intro B4 d4 W4 S4 aq a3 ao;have bw:=fh (nL.push ap.out aB aq a3 ao);have a9:=(aq.cell (by have:=ap.out.only.size;omega) bC _).trans a9;have aa:=(aq.cell (by have:=ap.out.only.size;omega) bC _).trans aa;have ab:=(aq.cell (by have:=ap.out.only.size;omega) ck _).trans ab;have ac:=(aq.cell aC bD _).trans ac;refine hK.out _ _ ⟨a9,aa,ab,ac⟩ ?_;clear hK aq a3 ao
     try simp only[gJ]
     refine .tq 12 [13] ⟨a9,aa,ab,ac⟩ ?_
     try simp only[gJ]
     obtain⟨k0,k1,k2,kf,kl⟩:=iS bw.out.1;refine fA.sl (fun K hK=>?_);go_simp;refine hK.out _ _ ?_;clear hK
     try simp only[gJ]
     go_wp2_with(fail);go_roundw;exact⟨k+1,nE+1,B4,d4,ak++[bv+x.kw],S4,Ar,K9,fh (by rw[<-aE.out,EV bj,Rs hnm,RU]),fh bw.out.2⟩;exact gM
    ·rw[Rk hnm]
     go_wp2_with(fail);go_roundw;exact⟨k+1,nE,AE,cE,ak,SE,Ar,K9,fh (by rw[<-aE.out,EV bj,Ro hnm,RY]),a6⟩;exact gM
   ·obtain rfl:k=I'.fm.length:=K9
    have bf:¬ ((I'.fm.length:Int)<(I'.fm.length:Int)):=K9;go_wp2_with(fail);go_roundw
    case measure=>exact gM
    case rel=>
     refine⟨f+1,nE,AE,cE,ak,SE,Ar,K9,fh ?_,HW⟩;have hE:=aE.out;rw[KA (Ru _),Tl] at hE;have hT:=av.out;rw[show nf-f=(nf-(f+1))+1 from K9,qG] at hT;have aK:(zq p).getD f 0=(j:Int):=by rw[Sf,bm.out];rfl
     have hI:(if bS=M/\f % 2=1 then qK i1 b1 (mj p ((zq p).getD f 0)) else qK i0 b0 (mj p ((zq p).getD f 0)))=qK I' bv aN.pu:=by
      rw[aK,bK.out];by_cases h:bS=M/\f % 2=1
      ·rw[Rs h] at ad |-
       subst ad;have h1:=aP.out;have h2:=aO.out;simp only[Tg,RW,RT] at h1 h2;rw[h1,h2]
      ·rw[Ro h] at ad |-
       subst ad;have h1:=aP.out;have h2:=aO.out;simp only[RW,RT] at h1 h2;rw[h1,h2]
     rw[hI,<-RU,<-hE] at hT;exact hT
 ·obtain rfl:f=nf:=K9
  have bh:¬ ((f:Int)<((zq p).length:Int)):=by rw[ax.out];omega
  have az:=Ty.up _ HX.out ay
  have c7:es=aM:=by
   have h:=bk.out;rw[St] at h;simpa[qG] using h
  subst c7;go_upto_region 16 with(go_at_call 106;(with_reducible refine(zbI az K9).mono ?_);rintro e W1 ⟨B1,d1,T1,rfl,b2,b5,al⟩);have a5:=HW.out.more al;have am:=ay.trans al;have b3:=nL.xK HV a5;have aX:=nL.xI HV a5;have bX:=a5.xJ.read;obtain⟨y0,y1,y2,yf,yl⟩:=iS a5.bx;clear b2 b5 az;go_wp2_with(go_at_call 41;(with_reducible refine(NI (Ty.read _ b3) (Ty.read _ aX) bX a5.len (by have:=ah.out;omega)).mono ?_);rw[aQ.out];rintro e W2 ⟨rfl,a7⟩;have y0:=za a7 y0;have y1:=za a7 y1;have y2:=za a7 y2;obtain⟨z0,z1,z2,zf,zl⟩:=iS (zj a8.out (am.trans a7)));have cn:=bH.out;have co:=bJ.out;have cA:=aw.out.size;have bR:=zj a8.out (am.trans a7);have cx:=(blt a8.out)
  obtain⟨e9,o9⟩:=rR bR (G (D ⟨l,0,C⟩) 2 2) (G (D ⟨n,0,C⟩) 2 2) (G AE nE cE);have cc:=o9.fy (aw.out.trans (am.trans a7)) (fun b hb=>by simp only[Rc] at hb;omega);have c1:=(iG.sl 103).gD ((iG.sl 103).jh b3 a7) (fun b hb=>o9.block b (Ri ((iG.sl 103).iY b3 b hb) a7.size) (by have:=(HV.si b hb).1;simp only[Rc];omega));have bW:=(zr.sl 3).gD ((zr.sl 3).jh aX a7) (fun b hb=>o9.block b (Ri ((zr.sl 3).iY aX b hb) a7.size) (by have:=HV.sn.1;rw[Rc.1 hb];simp only[Rc];omega));have cr:=aI.size;have bY:=(a5.xJ.fy a7).fJ o9 (fun b hb hm=>by simp only[Rc] at hm;have:=a5.lo b hb;omega);obtain⟨r0,r1,r2,_,_⟩:=iS e9;obtain rfl:=a5.len;refine Rj (v:=.tuple #[.agg #[G (D ⟨l,0,C⟩) 2 2,G (D ⟨n,0,C⟩) 2 2,G AE es.length cE],H M]) (by simp[Rv,results70,go_sem,r0,r1,r2]) rfl ?_
  exact⟨_,_,_,_,_,_,_,rfl,MC (x:=⟨[i0,i1],[b0,b1],es⟩) _ _ _ _ _ _ _ _ _ c1 bW bY.1,fun b hb=>by
   rcases Rr.1 hb with hb | hb
   ·rcases Rr.1 hb with hb | hb
    ·have:=(HV.si b hb).1;omega
    ·have:=HV.sn.1;rw[Rc.1 hb];omega
   ·have:=a5.lo b hb;omega,cc⟩
end Go.Proofs.YthgbglbaemelhaaGreat
