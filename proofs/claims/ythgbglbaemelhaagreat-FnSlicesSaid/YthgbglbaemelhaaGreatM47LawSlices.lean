/-
  PART.
-/
import Derived.Test.YthgbglbaemelhaaGreatM28LawSlices
import Derived.Test.YthgbglbaemelhaaGreatM38LawSlices
import Derived.Test.YthgbglbaemelhaaGreatM46LawSlices
set_option linter.unusedVariables false
set_option linter.unusedSimpArgs false
set_option maxRecDepth 100000
set_option maxHeartbeats 8000000
namespace Go.Proofs.YthgbglbaemelhaaGreat
open Value renaming slice->G,int->J,bool->H,string->V
open IntKind renaming i64->C,wrap->QP
open Option renaming none->D,some->Z
open Obj renaming cells->F
open Bool renaming false->I,true->M
open Go renaming World->U,results->Rd,Calls->Rh,Addr->Ri,yielded->Su
open World renaming cell?->QL,alloc->RR
open List renaming length_cons->Rc,length_nil->Ru,getElem?_cons_zero->RA,nil_append->RC,getElem?_cons_succ->Sw,sum_cons->SV
open Region renaming wanted->Rx,ready->RL,noSelect->Tn,Mode->Ts,free->Ui
open RowKit renaming intOf->Ry
open Tryz
open Go.RowKit
variable {A A0 A1 A2 A3 A4 A5 AE:X Ri}{B c c0 c1 c2 c3 c4 c5 cE g k l n nE:Nat}{P:Program}{S S4 S5 SE:Q Nat}{QH W Y w:U}{a:Act}{b:fV}{b0 b1 base:Int}{es:Q Int}{i i0 i1:gu}{nm:N}{o:Oper}{p:Q fv}{s:gv}{x:gE}
def lS (q:iV × Bool)(w:U)(e:Ending)(w':U):Prop:=∃ A0 c0 A1 c1 A2 c2 A3 c3,e=.returned (.tuple #[.agg #[G A0 q.1.fo.fq.length c0,G A1 q.1.fo.fu.length c1,G A2 q.1.fo.Entries.length c2,G A3 q.1.fX.length c3],H q.2])/\
 fU oS w w' [G A0 q.1.fo.fq.length c0,G A1 q.1.fo.fu.length c1,G A2 q.1.fo.Entries.length c2,G A3 q.1.fX.length c3] q.1/\ft w w'
theorem lS.no {q:iV × Bool} {w':U} (h:q=(⟨⟨[],[],[]⟩,[]⟩,I))(hg:ft w w'):lS q w (.returned (.tuple #[.agg #[G D 0 0,G D 0 0,G D 0 0,G D 0 0],H I])) w':=by
 subst h;exact⟨D,0,D,0,D,0,D,0,rfl,⟨_,Lu (x:=⟨⟨[],[],[]⟩,[]⟩) D 0 [] D 0 [] D 0 [] D 0 [] (Has.nil iL 103 w').1 (Has.nil zr 3 w').1 (Has.nil zr 3 w').1 (Has.nil me 108 w').1,List.nodup_nil,fun b hb=>by cases hb⟩,hg⟩
theorem MZ (h:me.R w B [J C x.Id,G A0 x.fm.length c0,G A1 x.fY.length c1,G A2 x.Rows.length c2,G A3 x.fI.length c3] x) :
  fD x.Id/\(ji.sl 137).R w B [G A0 x.fm.length c0] x.fm/\(kH.sl 205).R w B [G A1 x.fY.length c1] x.fY/\(ly.sl 216).R w B [G A2 x.Rows.length c2] x.Rows/\(kE.sl 214).R w B [G A3 x.fI.length c3] x.fI:=by
 obtain⟨_,_,_,_,_,_,_,_,he,hI,h0,h1,h2,h3⟩:=G2 h;simp only[TB,St,UL,TO] at he;obtain⟨⟨rfl,rfl⟩,⟨rfl,rfl⟩,⟨rfl,rfl⟩,⟨rfl,rfl⟩⟩:=he;exact⟨hI,h0,h1,h2,h3⟩
theorem CD {x:gv} (h:kV.R w B [G A0 x.fq.length c0,G A1 x.fu.length c1,G A2 x.Entries.length c2] x) :
  (iL.sl 103).R w B [G A0 x.fq.length c0] x.fq/\(zr.sl 3).R w B [G A1 x.fu.length c1] x.fu/\(zr.sl 3).R w B [G A2 x.Entries.length c2] x.Entries:=by
 obtain⟨_,_,_,_,_,_,he,h0,h1,h2⟩:=G6 h;simp only[TB,St,UL,TO] at he;obtain⟨⟨rfl,rfl⟩,⟨rfl,rfl⟩,⟨rfl,rfl⟩⟩:=he;exact⟨h0,h1,h2⟩
theorem GD (h:me.R w w.heap.size [J C x.Id,G A0 x.fm.length c0,G A1 x.fY.length c1,G A2 x.Rows.length c2,G A3 x.fI.length c3] x)(hg:ft w W)(hs:lR x) :
  Rh prog 74 #[.agg #[J C x.Id,G A0 x.fm.length c0,G A1 x.fY.length c1,G A2 x.Rows.length c2,G A3 x.fI.length c3]] W fun e w'=>e=.returned (V (mI x))/\ft W w':=by
 obtain⟨hI,h0,h1,h2,h3⟩:=MZ h;have e1:=hs.syms;have e2:=hs.rules;have e3:=hs.rows;have e4:=hs.inl;exact zoE (d:=x) (Ty.up _ h0 hg) (Ty.up _ h1 hg) (Ty.up _ h2 hg) (Ty.up _ h3 hg) hI ⟨by omega,by omega,by omega,by omega⟩
def tH (p:Q fv)(b:fV)(k:Nat):gE × Bool:=qz (mI (oH p b (k:Int)))
theorem Lf (p:Q fv)(b:fV)(s:gv):zX p b s=Aq s (tH p b 0) (tH p b 1):=rfl
theorem KA {x y:gE × Bool} (h:¬ (x.2=M/\y.2=M/\pt ⟨s,[x.1,y.1]⟩=M)):Aq s x y=(⟨⟨[],[],[]⟩,[]⟩,I):=QZ h
theorem Gh {y:gE} (h0:(iL.sl 103).R w w.heap.size [G A0 s.fq.length c0] s.fq)(h1:(zr.sl 3).R w w.heap.size [G A1 s.fu.length c1] s.fu)
  (h2:(zr.sl 3).R w w.heap.size [G A2 s.Entries.length c2] s.Entries) (h3:(me.sl 108).R w w.heap.size [G A3 2 c3] [x,y]) (hs:jP s<=1099511627776) :
  Rh prog 56 #[.agg #[G A0 s.fq.length c0,G A1 s.fu.length c1,G A2 s.Entries.length c2,G A3 2 c3]] w fun r w'=>r=.returned (H (pt ⟨s,[x,y]⟩))/\ft w w':=zr1 (a:=⟨s,[x,y]⟩) h0 h1 h2 h3 hs
theorem zqz (hx:(zJ.sl 99).R w w.heap.size [G A p.length c] p)(hll:p.length<=1099511627776)(hsx:∀ x∈p,x.fM.length<=1099511627776/\x.Expr.length<=1099511627776)(hnm:∀ x∈p,x.Name.size<=9223372036854775807)
  (h0:(iL.sl 103).R w w.heap.size [G A0 s.fq.length c0] s.fq) (h1:(zr.sl 3).R w w.heap.size [G A1 s.fu.length c1] s.fu) (h2:(zr.sl 3).R w w.heap.size [G A2 s.Entries.length c2] s.Entries) (hs:jP s<=1099511627776) :
  Rh prog 34 #[G A p.length c,.agg #[J C b.Frames,J C b.Inline,H b.Fold,H b.Split],.agg #[G A0 s.fq.length c0,G A1 s.fu.length c1,G A2 s.Entries.length c2]] w (lS (zX p b s) w):=by
 have aF:=fh (fun(k:Nat) (W:U) (hG:ft w W)=>zpc (b:=b) (image:=(k:Int)) (w:=W) (Ty.up _ hx hG) hll hsx hnm);have aC:=fh (Lf p b s);have aO:=fh (fun(k:Nat)=>(show qz (mI (oH p b (k:Int)))=tH p b k from rfl));have aj:=fh (fun(k:Nat)=>DD p b (k:Int));go_enter func34,ntmps34;go_upto_region 1 with(fail);have EB:Obj:=(F #[J C b.Frames,J C b.Inline,H b.Fold,H b.Split] 71)
 clear EB;have a6:ft w (((w.alloc (F #[J C b.Frames,J C b.Inline,H b.Fold,H b.Split] 71)).alloc (F #[G A0 s.fq.length c0,G A1 s.fu.length c1,G A2 s.Entries.length c2] 28)).alloc (F #[G D 0 0,G D 0 0,G D 0 0,G D 0 0] 31)):=gG;have e4:(((w.alloc (F #[J C b.Frames,J C b.Inline,H b.Fold,H b.Split] 71)).alloc (F #[G A0 s.fq.length c0,G A1 s.fu.length c1,G A2 s.Entries.length c2] 28)).alloc (F #[G D 0 0,G D 0 0,G D 0 0,G D 0 0] 31)).heap[w.heap.size]?=Z (F #[J C b.Frames,J C b.Inline,H b.Fold,H b.Split] 71 (0,0)):=zj (QO w _) gF
 have e5:(((w.alloc (F #[J C b.Frames,J C b.Inline,H b.Fold,H b.Split] 71)).alloc (F #[G A0 s.fq.length c0,G A1 s.fu.length c1,G A2 s.Entries.length c2] 28)).alloc (F #[G D 0 0,G D 0 0,G D 0 0,G D 0 0] 31)).heap[w.heap.size+1]?=Z (F #[G A0 s.fq.length c0,G A1 s.fu.length c1,G A2 s.Entries.length c2] 28 (0,0)):=by
  have h:=QO (w.alloc (F #[J C b.Frames,J C b.Inline,H b.Fold,H b.Split] 71)) (F #[G A0 s.fq.length c0,G A1 s.fu.length c1,G A2 s.Entries.length c2] 28);rw[Rf] at h;exact zj h gF
 have e6:(((w.alloc (F #[J C b.Frames,J C b.Inline,H b.Fold,H b.Split] 71)).alloc (F #[G A0 s.fq.length c0,G A1 s.fu.length c1,G A2 s.Entries.length c2] 28)).alloc (F #[G D 0 0,G D 0 0,G D 0 0,G D 0 0] 31)).heap[w.heap.size+1+1]?=Z (F #[G D 0 0,G D 0 0,G D 0 0,G D 0 0] 31 (0,0)):=by
  have h:=QO ((w.alloc (F #[J C b.Frames,J C b.Inline,H b.Fold,H b.Split] 71)).alloc (F #[G A0 s.fq.length c0,G A1 s.fu.length c1,G A2 s.Entries.length c2] 28)) (F #[G D 0 0,G D 0 0,G D 0 0,G D 0 0] 31);rw[Rf,Rf] at h;exact h
 generalize (((w.alloc _).alloc _).alloc _)=Y at a6 e4 e5 e6 |-;obtain⟨g4,aw⟩:∃ g,w.heap.size=g:=⟨_,rfl⟩
 obtain⟨g5,ax⟩:∃ g,g4+1=g:=⟨_,rfl⟩
 obtain⟨g6,ay⟩:∃ g,g5+1=g:=⟨_,rfl⟩
 rw[aw] at e4 e5 e6 |-;rw[ax] at e5 e6 |-;rw[ay] at e6 |-;have b8:w.heap.size<=g4:=by omega
 have aB:w.heap.size<=g6:=by omega
 have a5:=fh aw;have aV:=fh ax;have aW:=fh ay;clear aw ax ay;obtain⟨x0,x1,x2,xf,xl⟩:=jc e5;have z0:=Ty.up _ h0 a6;have z1:=Ty.up _ h1 a6;have z2:=Ty.up _ h2 a6;go_wp2_with(go_at_call 72;(with_reducible refine(zjw (s:=s) z0 z1 z2 hs).mono ?_);rintro e v1 ⟨B0,d0,B1,d1,B2,d2,rfl,aI,af⟩);have aZ:=aI.has;obtain⟨S0,ac,a7⟩:=aZ;have e8:=QO v1 (F #[G B0 s.fq.length d0,G B1 s.fu.length d1,G B2 s.Entries.length d2,G D 0 0] 31);have ad:ft v1 (v1.alloc (F #[G B0 s.fq.length d0,G B1 s.fu.length d1,G B2 s.Entries.length d2,G D 0 0] 31)):=gG;have a8:∀ b∈S0,b<v1.heap.size:=ac.lt;have ai:(v1.alloc (F #[G B0 s.fq.length d0,G B1 s.fu.length d1,G B2 s.Entries.length d2,G D 0 0] 31)).heap.size=v1.heap.size+1:=Rf _ _;obtain⟨g8,aN⟩:∃ g,v1.heap.size=g:=⟨_,rfl⟩
 have b7:g6<Y.heap.size:=(iJ e6).2.2.2.2.2;have b6:Y.heap.size<=g8:=by have:=af.size;omega
 rw[aN] at e8 a8 ai |-;clear aN;have ac:=ac.fx ad;have az:=(a6.trans af).trans ad;have e4:=zj (zj e4 af) ad;have e6:=zj (zj e6 af) ad;generalize (v1.alloc _)=QH at e8 e4 e6 ac az ad ai |-;have b4:=a6.size;have b5:g4<g8:=by have:=a5.out;have:=aV.out;have:=aW.out;omega
 have aH:g6<g8:=by omega
 have al:=fh (show ∀ b∈S0,w.heap.size<=b from fun b hb=>by have:=a7 b hb;omega);have ae:=fh a8;have am:=fh (show ∀ b∈S0,g6<b from fun b hb=>by have:=a7 b hb;omega);have aS:=fh ac;have aQ:=fh e4;have aR:=fh e6;have aE:=fh az;clear z0 z1 z2 x0 x1 x2 xf xl e5 aI af ad a7 a8 ac e4 e6 az a6 b4;go_loopw [9] (fun z9 wr=>∃(k:Nat) (a4:Q gE) (A5:X Ri) (c5:Nat) (S:Q Nat),z9=J C k/\k<=2/\a4.length=k/\Hid (∀ i<k,a4[i]?=Z (tH p b i).1/\(tH p b i).2=M)/\Hid (fw [g8] QH wr)/\Hid (wr.heap[g8]?=Z (F #[G B0 s.fq.length d0,G B1 s.fu.length d1,G B2 s.Entries.length d2,G A5 k c5] 31 (0,0)))/\Hid (Has (me.sl 108) wr [G A5 k c5] a4 S)/\Hid (∀ b∈S,QH.heap.size<=b)) (fun z9 _=>2-(Ry z9).toNat)
 case atStart=>exact⟨0,[],D,0,[],rfl,QX _,rfl,fh (fun i h=>absurd h (Uv i)),fh (fw.refl _ _),fh e8,fh (Has.nil me 108 QH),fh (fun b hb=>by cases hb)⟩
 clear e8;obtain⟨k,a4,A5,c5,S,rfl,hk,au,HA,HO,ak,HH,HS⟩:=hrel;have a0:ft w wr:=HO.out.fx aE.out (fun b hb=>by simp only[QN] at hb;omega);have e4:wr.heap[g4]?=Z (F #[J C b.Frames,J C b.Inline,H b.Fold,H b.Split] 71 (0,0)):=(HO.out.block _ (by omega) (by simp;omega)).trans aQ.out;have e6:wr.heap[g6]?=Z (F #[G D 0 0,G D 0 0,G D 0 0,G D 0 0] 31 (0,0)):=(HO.out.block _ (by omega) (by simp;omega)).trans aR.out;have b2:=HO.out.size;by_cases hlt:k<2
 ·have b1:(k:Int)<2:=by omega
  have b9:QP C ((k:Int)+1)=(k:Int)+1:=iw;obtain⟨x0,x1,x2,x3,xf,xl⟩:=iJ e4;have b0:k=0∨k=1:=by omega
  obtain⟨d,ok,ag⟩:∃ d ok,tH p b k=(d,ok):=⟨_,_,rfl⟩
  have HD:=fh ((aO.out k).trans ag);have aP:=fh ag;cases ok with
  | false=>
   have HN:=fh (show zX p b s=(⟨⟨[],[],[]⟩,[]⟩,I) from by
    rw[aC.out];refine KA (fun h=>?_);rcases b0 with rfl | rfl
    ·rw[ag] at h;exact absurd h.1 Bool.false_ne_true
    ·rw[ag] at h;exact absurd h.2.1 Bool.false_ne_true)
   clear ag
   go_wp2_with(first
    | (go_at_call 75;(with_reducible refine(aF.out k _ a0).mono ?_);rintro e v2 ⟨C0,f0,C1,f1,C2,f2,C3,f3,rfl,aq,a9⟩)
    | (go_at_call 74;(with_reducible refine(GD (x:=oH p b (k:Int)) aq.read (ft.refl _) (aj.out k)).mono ?_);rintro e v3 ⟨rfl,aa⟩)
    | (go_at_call 73;(with_reducible refine(zot _ _ (by have:=Ej (aj.out k);omega)).mono ?_);rw[HD.out];rintro e v4 ⟨D0,q0,D1,q1,D2,q2,D3,q3,rfl,aJ,a5⟩;have ab:=(a9.trans aa).trans a5;have e6:=zj e6 ab;obtain⟨y0,y1,y2,y3,yf,yl⟩:=iJ e6))
   have a2:=wb e6 (G D 0 0) (G D 0 0) (G D 0 0) (G D 0 0);have a1:=a2.2.fx (a0.trans ab) (by simp only[QN];rintro b rfl;exact aB);obtain⟨r0,r1,r2,r3,_,_⟩:=iJ (zj a2.1 (show ft _ (RR _ (F #[J C d.Id,G D0 d.fm.length q0,G D1 d.fY.length q1,G D2 d.Rows.length q2,G D3 d.fI.length q3] 108)) from gG));exact QU (v:=.tuple #[.agg #[G D 0 0,G D 0 0,G D 0 0,G D 0 0],H I]) (by simp[Rd,results34,go_sem,r0,r1,r2,r3]) rfl (lS.no HN.out (a1.trans gF))
  | true=>
   go_wp2_with(first
    | (go_at_call 75;(with_reducible refine(aF.out k _ a0).mono ?_);rintro e v2 ⟨C0,f0,C1,f1,C2,f2,C3,f3,rfl,aq,a9⟩)
    | (go_at_call 74;(with_reducible refine(GD (x:=oH p b (k:Int)) aq.read (ft.refl _) (aj.out k)).mono ?_);rintro e v3 ⟨rfl,aa⟩)
    | (go_at_call 73;(with_reducible refine(zot _ _ (by have:=Ej (aj.out k);omega)).mono ?_);rw[HD.out];rintro e v4 ⟨D0,q0,D1,q1,D2,q2,D3,q3,rfl,aJ,a5⟩;have ab:=(a9.trans aa).trans a5;have e8:=zj ak.out (ft.trans (b:=v4) ab (show ft v4 (v4.alloc (F #[J C d.Id,G D0 d.fm.length q0,G D1 d.fY.length q1,G D2 d.Rows.length q2,G D3 d.fI.length q3] 108)) from gG));obtain⟨y0,y1,y2,y3,yf,yl⟩:=iJ e8;obtain⟨SD,aX,ar⟩:=aJ.has)
    | (refine zC (L:=k+1) rfl (.tmp 32) (.tmp 34) PD (S:=S) (HH.out.fx (ab.trans gF)) (aX.fx gF) (fun b hb hm=>by have h1:=ar b hm;have h2:=HH.out.lt b hb;have h3:=a9.size;have h4:=aa.size;omega) rfl rfl rfl (by intro j u hu;simpa[go_sem] using hu) rfl (by omega) (by omega) ?_))
   intro A9 c9 W9 S9 aA aK aM;have ah:g8∉S:=fun hm=>by have:=HS.out g8 hm;omega
   have e9:=(aA.block g8 (by have h3:=a9.size;have h4:=aa.size;have h5:=a5.size;simp;omega) ah).trans (zj e8 gF);obtain⟨m0,m1,m2,m3,mf,ml⟩:=iJ e9;have aU:=fh aA;have aT:=fh aK;have aG:=fh aM;clear aA aK aM;go_wp2_with(fail);go_roundw
   case measure=>exact gH
   case rel=>
    have aY:fw [g8] QH W9:=fw.on HO.out (ab.trans gF) aU.out (fun x hx=>.inr (HS.out x hx));have h3:=a9.size;have h4:=aa.size;have h5:=a5.size;refine⟨k+1,a4++[d],A9,c9,S9,by go_num,by omega,by rw[QR,au];rfl,fh (fun i hi=>?_),fh (aY.setCell (by simp) _),fh (zN e9 3 _),fh (aT.out.fJ ((fw.refl [g8] _).setCell (by simp) _) (fun b hb hm=>?_)),fh (fun b hb=>?_)⟩
    ·by_cases hik:i<k
     ·rw[RY (by omega)]
      exact HA.out i hik
     ·obtain rfl:i=k:=by omega
      rw[RF (by omega),au,RP,aP.out];exact⟨rfl,rfl⟩
    ·simp only[QN] at hm
     subst hm;rcases aG.out b hb with h | h | h
     ·exact ah h
     ·have:=ar b h;omega
     ·(try simp at h);omega
    ·rcases aG.out b hb with h | h | h
     ·exact HS.out b h
     ·have:=ar b h;omega
     ·(try simp at h);omega
 ·obtain rfl:k=2:=by omega
  have b1:¬ (((2:Nat):Int)<2):=by omega
  obtain⟨x,y,b3⟩:∃ x y,a4 = [x,y]:=by
   match a4,au with
   | [x,y],_=>exact⟨_,_,rfl⟩
  subst b3;have an:=HA.out 0 (by omega);have ap:=HA.out 1 (by omega);have ex:x=(tH p b 0).1:=by simpa using an.1
  have ey:y=(tH p b 1).1:=by simpa using ap.1
  have HV:=fh (show zX p b s=if pt ⟨s,[x,y]⟩=M then (⟨s,[x,y]⟩,M) else (⟨⟨[],[],[]⟩,[]⟩,I) from by
   rw[aC.out];unfold Aq;rw[an.2,ap.2,<-ex,<-ey]
   simp only[UL])
  clear an ap ex ey;have aL:=aS.out.fJ HO.out (fun b hb hm=>by simp only[QN] at hm;have:=ae.out b hb;omega);obtain⟨t0,t1,t2⟩:=CD aL.read;have t3:=HH.out.read;obtain⟨x0,x1,x2,x3,xf,xl⟩:=iJ ak.out;obtain⟨y0,y1,y2,y3,yf,yl⟩:=iJ e6;obtain⟨ao,av⟩:∃ ao,pt ⟨s,[x,y]⟩=ao:=⟨_,rfl⟩
  have aD:=fh av;cases ao with
  | false=>
   have HN:=fh (show zX p b s=(⟨⟨[],[],[]⟩,[]⟩,I) from by rw[HV.out,av];rfl);go_wp2_with(go_at_call 56;(with_reducible refine(Gh t0 t1 t2 t3 hs).mono ?_);rw[aD.out];rintro e v5 ⟨rfl,a3⟩;have e6:=zj e6 a3;obtain⟨y0,y1,y2,y3,yf,yl⟩:=iJ e6);have a2:=wb e6 (G D 0 0) (G D 0 0) (G D 0 0) (G D 0 0);have a1:=a2.2.fx (a0.trans a3) (by simp only[QN];rintro b rfl;exact aB);obtain⟨r0,r1,r2,r3,_,_⟩:=iJ a2.1;exact QU (v:=.tuple #[.agg #[G D 0 0,G D 0 0,G D 0 0,G D 0 0],H I]) (by simp[Rd,results34,go_sem,r0,r1,r2,r3]) rfl (lS.no HN.out a1)
  | true=>
   have HN:=fh (show zX p b s=(⟨s,[x,y]⟩,M) from by rw[HV.out,av];rfl);go_wp2_with(go_at_call 56;(with_reducible refine(Gh t0 t1 t2 t3 hs).mono ?_);rw[aD.out];rintro e v5 ⟨rfl,a3⟩;have e6:=zj e6 a3;obtain⟨y0,y1,y2,y3,yf,yl⟩:=iJ e6;have e8:=zj ak.out a3;obtain⟨x0,x1,x2,x3,xf,xl⟩:=iJ e8);have a2:=wb e6 (G B0 s.fq.length d0) (G B1 s.fu.length d1) (G B2 s.Entries.length d2) (G A5 2 c5);have a1:=a2.2.fx (a0.trans a3) (by simp only[QN];rintro b rfl;exact aB);obtain⟨r0,r1,r2,r3,_,_⟩:=iJ a2.1;have k0:=(aL.fx a3).fJ a2.2 (fun b hb hm=>by simp only[QN] at hm;have:=am.out b hb;omega);have k1:=(HH.out.fx a3).fJ a2.2 (fun b hb hm=>by simp only[QN] at hm;have:=HS.out b hb;omega);refine QU (v:=.tuple #[.agg #[G B0 s.fq.length d0,G B1 s.fu.length d1,G B2 s.Entries.length d2,G A5 2 c5],H M]) (by simp[Rd,results34,go_sem,r0,r1,r2,r3]) rfl ?_;rw[HN.out];exact⟨B0,d0,B1,d1,B2,d2,A5,c5,rfl,JL (x:=⟨s,[x,y]⟩) (u0:=w) (m0:=g8) (u1:=QH) (m1:=_) ⟨S0,k0.1,k0.2,fun b hb=>⟨al.out b hb,ae.out b hb⟩⟩ (O4 k1 HS.out) (Q8 _) aE.out.size (.inl (by omega)),a1⟩
structure Static (P:Program)(n:FuncId):Prop where
 fn:∃ fn:Func,P.funcs[n]?=Z fn/\fn.body.isNone=I/\(fn.name == "runtime.NumGoroutine")=I
theorem M8 {n:FuncId} {args:Array Operand} {tys:Array TypeId} (hs:Static P n)(ho:o.op=.call { callee:=.value (.func n),args:=args,argTypes:=tys }) :
  (execOp a.eval o).run P w=.ok (.enter n (args.map a.eval)) w:=by
 obtain⟨a5,op,a4,a0,a1,a6⟩:=o;simp only at ho;subst ho;obtain⟨fn,hf,hb,hn⟩:=hs.fn;go_simp;have a3:¬ fn.name = "runtime.NumGoroutine":=by simpa using hn
 have a2:¬ fn.body=D:=by intro h;rw[h] at hb;cases hb
 simp[callFunc,hf,a3,a2,go_sem]
theorem sC {ops:Array Oper} {K:Act->U->Prop} {QI:Exit->Act->U->Prop} {E:Prop} {n:FuncId} {args:Array Operand} {tys:Array TypeId} {vals:Array Value} {Qz:Ending->U->Prop} (hs:Static P n)(hgd:o.guard=D)(ho:o.op=.call { callee:=.value (.func n),args:=args,argTypes:=tys })(hc:Rh P n vals w Qz)
  (he:args.map a.eval=vals) (h:∀ e w',Qz e w'->∃ v,e=.returned v/\K (a.put o.dst v) w'):if Rx o (Su ops a.tmps)=M then Oper.wp P o a w K QI else E:=by
 rw[Q5 (by simp[Rx,hgd])];unfold Oper.wp;rw[M8 hs ho,Oper.upon_enter,he];refine hc.mono ?_;intro e w' hC;obtain⟨v,rfl,hk⟩:=h e w' hC;exact hk
theorem Ft:Static prog 105:=⟨_,func105,rfl,by decide⟩
theorem Dj (HG:ft Y W)(o:Obj):ft W (W.alloc o)/\(W.alloc o).heap[W.heap.size]?=Z o/\Y.heap.size<=W.heap.size:=⟨(ft.refl _).alloc _,QO _ _,HG.size⟩
theorem IV {α:Type} {T:Ty α} {cs:Q Value} {x:α} (h:Has T W cs x S):∀ b∈S,b≠W.heap.size:=fun b hb=>UP (h.lt b hb)
theorem Be {o:Obj} (h:W.heap[g]?=Z o):g≠W.heap.size:=UP (blt h)
theorem Dq {o:Obj} (hS:∀ b∈S,W.heap.size<=b)(h:W.heap[g]?=Z o):∀ b∈S,b≠g:=fun b hb=>by have h1:=hS b hb;have h2:=(blt h);omega
theorem IZ (HG:ft Y W)(hS:∀ b∈S,W.heap.size<=b):∀ b∈S,Y.heap.size<=b:=fun b hb=>Rj HG.size (hS b hb)
structure sm (Y W:U)(g l n:Nat)(S:Q Nat)(i0 i1:gu)(b0 b1:Int):Prop where
 fx:ft Y W
 bx:W.heap[g]?=Z (F #[G (Z ⟨l,0,D⟩) 2 2,G (Z ⟨n,0,D⟩) 2 2,G D 0 0] 28 (0,0))
 wk:(iL.sl 103).O W [G (Z ⟨l,0,D⟩) 2 2] [i0,i1] S
 Bm:(zr.sl 3).O W [G (Z ⟨n,0,D⟩) 2 2] [b0,b1] [n]
 si:∀ b∈S,Y.heap.size<=b/\b≠g
 sn:Y.heap.size<=n/\n≠g
 sg:Y.heap.size<=g
theorem sm.I2 (HG:ft Y W)(el:W.heap[l]?=Z (F #[V i0.Code,G A4 i0.fm.length c4,V i1.Code,G A5 i1.fm.length c5] 103 (0,0)))(en:W.heap[n]?=Z (F #[J C b0,J C b1] 3 (0,0)))
  (eg:W.heap[g]?=Z (F #[G D 0 0,G D 0 0,G D 0 0] 28 (0,0))) (hH4:Has (ji.sl 137) W [G A4 i0.fm.length c4] i0.fm S4) (hH5:Has (ji.sl 137) W [G A5 i1.fm.length c5] i1.fm S5) (z0:i0.Code.size<=9223372036854775807) (z1:i1.Code.size<=9223372036854775807)
  (q4:∀ b∈S4,Y.heap.size<=b) (q5:∀ b∈S5,Y.heap.size<=b) (ql:Y.heap.size<=l) (qn:Y.heap.size<=n) (qg:Y.heap.size<=g) (n4:∀ b∈S4,b≠g) (n5:∀ b∈S5,b≠g) (nl:l≠g) (nn:n≠g) (hb0:fD b0) (hb1:fD b1) {W':U}
  (hW:W'.heap[g]?=Z (F #[G (Z ⟨l,0,D⟩) 2 2,G (Z ⟨n,0,D⟩) 2 2,G D 0 0] 28 (0,0))) (ho:fw [g] W W'):sm Y W' g l n (l::(S4++S5)) i0 i1 b0 b1:=by
 have k4:=hH4.fJ ho (fun b hb hm=>n4 b hb (by simpa using hm));have k5:=hH5.fJ ho (fun b hb hm=>n5 b hb (by simpa using hm));have kl:=(ho.block l (blt el) (by simpa using nl)).trans el;have kn:=(ho.block n (blt en) (by simpa using nn)).trans en;refine⟨ho.fx HG (fun b hb=>by simp only[QN] at hb;omega),hW,?_,?_,fun b hb=>?_,⟨qn,nn⟩,qg⟩
 ·exact pS (T:=iL) (xs:=[i0,i1]) (S:=S4++S5) kl ⟨_,_,S4,S5,rfl,rfl,yO z0 k4.1,⟨_,[],S5,[],rfl,(by simp),yO z1 k5.1,⟨rfl,rfl⟩⟩⟩ (by simp)
 ·exact pS (T:=zr) (xs:=[b0,b1]) (S:=[]) kn ⟨[J C b0],[J C b1],[],[],rfl,rfl,⟨rfl,hb0.1,hb0.2,rfl⟩,⟨[J C b1],[],[],[],rfl,rfl,⟨rfl,hb1.1,hb1.2,rfl⟩,⟨rfl,rfl⟩⟩⟩ (by simp)
 ·rcases Rp.1 hb with rfl | hb
  ·exact⟨ql,nl⟩
  ·rcases Q7.1 hb with hb | hb
   ·exact⟨q4 b hb,n4 b hb⟩
   ·exact⟨q5 b hb,n5 b hb⟩
theorem sm.of (HG:ft Y W)(el:W.heap[l]?=Z (F #[V i0.Code,G A4 i0.fm.length c4,V i1.Code,G A5 i1.fm.length c5] 103 (0,0)))(en:W.heap[n]?=Z (F #[J C b0,J C b1] 3 (0,0)))
  (eg:W.heap[g]?=Z (F #[G D 0 0,G D 0 0,G D 0 0] 28 (0,0))) (hH4:Has (ji.sl 137) W [G A4 i0.fm.length c4] i0.fm S4) (hH5:Has (ji.sl 137) W [G A5 i1.fm.length c5] i1.fm S5) (z0:i0.Code.size<=9223372036854775807) (z1:i1.Code.size<=9223372036854775807)
  (q4:∀ b∈S4,Y.heap.size<=b) (q5:∀ b∈S5,Y.heap.size<=b) (ql:Y.heap.size<=l) (qn:Y.heap.size<=n) (qg:Y.heap.size<=g) (n4:∀ b∈S4,b≠g) (n5:∀ b∈S5,b≠g) (nl:l≠g) (nn:n≠g) (hb0:fD b0) (hb1:fD b1) :
  sm Y (((W.setCell ⟨g,0,D⟩ (G (Z ⟨l,0,D⟩) 2 2)).setCell ⟨g,1,D⟩ (G (Z ⟨n,0,D⟩) 2 2)).setCell ⟨g,2,D⟩ (G D 0 0)) g l n (l::(S4++S5)) i0 i1 b0 b1:=
 sm.I2 HG el en eg hH4 hH5 z0 z1 q4 q5 ql qn qg n4 n5 nl nn hb0 hb1 (rB eg _ _ _).1 (rB eg _ _ _).2
structure nA (QH W:U)(g l n:Nat)(AE:X Ri)(nE cE:Nat)(es:Q Int)(SE:Q Nat):Prop where
 only:fw [g] QH W
 bx:W.heap[g]?=Z (F #[G (Z ⟨l,0,D⟩) 2 2,G (Z ⟨n,0,D⟩) 2 2,G AE nE cE] 28 (0,0))
 xm:Has (zr.sl 3) W [G AE nE cE] es SE
 lo:∀ b∈SE,QH.heap.size<=b
 len:nE=es.length
theorem nA.more {W':U} (h:nA QH W g l n AE nE cE es SE)(hg:ft W W'):nA QH W' g l n AE nE cE es SE:=
 ⟨h.only.trans (hg.only _),zj h.bx hg,h.xm.fx hg,h.lo,h.len⟩
theorem nA.push {W4:U} {B4:X Ri} {d4:Nat} {v:Int} (h:nA QH W g l n AE nE cE es SE)(hgV:g<QH.heap.size)(hon:fw SE W W4)(hH4:Has (zr.sl 3) W4 [G B4 (nE+1) d4] (es++[v]) S4)(hS4:∀ b∈S4,b∈SE∨W.heap.size<=b) :
  (W4.heap[g]?=Z (F #[G (Z ⟨l,0,D⟩) 2 2,G (Z ⟨n,0,D⟩) 2 2,G AE nE cE] 28 (0,0)))/\nA QH (W4.setCell ⟨g,2,D⟩ (G B4 (nE+1) d4)) g l n B4 (nE+1) d4 (es++[v]) S4:=by
 have a2:=h.only.size;have a1:g∉SE:=fun hm=>by have:=h.lo g hm;omega
 have a0:=(hon.block g (by omega) a1).trans h.bx;have o5:fw [g] W4 (W4.setCell ⟨g,2,D⟩ (G B4 (nE+1) d4)):=(fw.refl [g] W4).setCell (by simp) _;have e5:=zN a0 2 (G B4 (nE+1) d4);simp only[Tv,List.set_cons_zero,List.set_cons_succ] at e5;refine⟨a0,(h.only.then hon (fun b hb=>.inr (h.lo b hb))).trans o5,e5,hH4.fJ o5 (fun b hb hm=>?_),fun b hb=>?_,by rw[QR,h.len];rfl⟩
 ·simp only[QN] at hm
  subst hm;rcases hS4 b hb with h1 | h1
  ·exact a1 h1
  ·omega
 ·rcases hS4 b hb with h1 | h1
  ·exact h.lo b h1
  ·omega
theorem nA.xn (HV:sm Y QH g l n S i0 i1 b0 b1)(h:nA QH W g l n AE nE cE es SE):(iL.sl 103).O W [G (Z ⟨l,0,D⟩) 2 2] [i0,i1] S:=
 (iL.sl 103).gD HV.wk (fun b hb=>h.only.block b ((iL.sl 103).ja HV.wk b hb) (by simpa using(HV.si b hb).2))
theorem nA.xk (HV:sm Y QH g l n S i0 i1 b0 b1)(h:nA QH W g l n AE nE cE es SE):(zr.sl 3).O W [G (Z ⟨n,0,D⟩) 2 2] [b0,b1] [n]:=
 (zr.sl 3).gD HV.Bm (fun b hb=>h.only.block b ((zr.sl 3).ja HV.Bm b hb) (by rw[QN.1 hb];simpa using HV.sn.2))
theorem NR (h0:(iL.sl 103).R w w.heap.size [G A0 2 c0] [i0,i1])(h1:(zr.sl 3).R w w.heap.size [G A1 2 c1] [b0,b1])
  (h2:(zr.sl 3).R w w.heap.size [G A2 n c2] es) (hn:n=es.length) (hs:jP ⟨[i0,i1],[b0,b1],es⟩<=1099511627776) :
  Rh prog 41 #[.agg #[G A0 2 c0,G A1 2 c1,G A2 n c2]] w fun r w'=>r=.returned (H (zU ⟨[i0,i1],[b0,b1],es⟩))/\ft w w':=by
 subst hn;exact zbU (s:=⟨[i0,i1],[b0,b1],es⟩) h0 h1 h2 hs
def wP (i:gu)(base:Int)(nm:N)(k:Nat):Q Int:=((i.fm.drop k).filter fun x=>decide (x.Name=nm)).map fun x=>base+x.Start
theorem JT (h:i.fm.length<=k):wP i base nm k = []:=by unfold wP;rw[SX h];rfl
theorem Em {x:fC} (h:i.fm[k]?=Z x):wP i base nm k=(if x.Name=nm then [base+x.Start] else [])++wP i base nm (k+1):=by
 obtain⟨h1,rfl⟩:=QM.1 h;unfold wP;rw[Q6 h1,Te];by_cases hc:i.fm[k].Name=nm
 ·simp[hc]
 ·simp[hc]
theorem Pu {f:Nat} (h:f<=3):bits .and C (f:Int) 1=((f % 2:Nat):Int):=by
 have:f=0∨f=1∨f=2∨f=3:=by omega
 rcases this with rfl | rfl | rfl | rfl <;> decide
def P5 (s:gv)(w:U)(e:Ending)(w':U):Prop:=∃ A0 c0 A1 c1 A2 c2 S,e=.returned (.tuple #[.agg #[G A0 s.fq.length c0,G A1 s.fu.length c1,G A2 s.Entries.length c2],H M])/\kV.O w' [G A0 s.fq.length c0,G A1 s.fu.length c1,G A2 s.Entries.length c2] s S/\(∀ q∈S,w.heap.size<=q)/\ft w w'
theorem Hg:∀ l:Q fC,(l.map sJ).sum+l.length<=lN l
 | []=>Q8 _
 | x::l=>by
  have:=Hg l;simp only[lN,RS,SV,Rc,sJ] at this |-;omega
theorem GL {k:Int} (hp:zv p=M)(hS:ov p)(hb:jM b=M)(hk:fT k 0 1=M):lV (jq p b k)<=2000000:=by
 have h1:=(wC (image:=k) hp hS hb hk).1;simp only[jr,Q4,Rg] at h1;have h2:=(DD p b k).syms;unfold oH at h2;rw[Q5 ⟨hp,hb,hk⟩] at h2;have h3:=Hg (jq p b k).fm;unfold lV lH;simp only at h2;have:=h1.1;omega
theorem Cr (hp:zv p=M)(hS:ov p)(h4:(zp p).length<=4)(hb:jM b=M)(h0:1<=b0/\b0<=9000)(h1:20000<=b1/\b1<=1000000):jP (zn p b b0 b1)<=10000000:=by
 have k0:=GL (k:=0) hp hS hb rfl;have k1:=GL (k:=1) hp hS hb rfl;have k2:=yG hp hS hb (b0:=b0) (b1:=b1) (zp p).length 0 (by omega);unfold jP zn lH;simp only[k2,Rc,Ru,RS,List.map_nil,SV,List.sum_nil];omega
theorem JC (hp:zv p=M)(hS:ov p)(hb:jM b=M):∀ i∈[jq p b 0,jq p b 1],∀ x∈i.fm,0<=x.Start/\x.Start<=1000000:=by
 have a0:∀ k:Int,fT k 0 1=M->∀ x∈(jq p b k).fm,0<=x.Start/\x.Start<=1000000:=by
  intro k hk x hx;have h1:=(wC (image:=k) hp hS hb hk).1;simp only[jr,Q4,Rg] at h1;have h2:=Ap h1.1 _ _ _ 0 h1.2 x hx;have:=h1.1;omega
 intro i hi;simp only[Rp,RO,SH] at hi;rcases hi with rfl | rfl
 ·exact a0 0 rfl
 ·exact a0 1 rfl
theorem zo8 (hx:(zJ.sl 99).R w w.heap.size [G A p.length c] p)(hD:iz p)(hb:jM b=M)(h0:1<=b0/\b0<=9000)(h1:20000<=b1/\b1<=1000000) :
  Rh prog 70 #[G A p.length c,.agg #[J C b.Frames,J C b.Inline,H b.Fold,H b.Split],J C b0,J C b1] w (P5 (zn p b b0 b1) w):=by
 obtain⟨bF,bI,a0,bS⟩:=b;have aD:=Dz hD.ok hD.short hD.four hb h0 h1;have bG:=fh (fun w=>xP (b:=⟨bF,bI,a0,bS⟩) (w:=w));have bM:=fh hD.ok;have bE:=fh hb;have hl:=hD.len;have bL:=fh hD.parts;have ar:=fh (fun(W:U) (h:(zJ.sl 99).R W W.heap.size [G A p.length c] p)=>zhG (w:=W) (A:=A) (c:=c) (b:=⟨bF,bI,a0,bS⟩) (image:=0) h (by omega) hD.parts);have au:=fh (fun(W:U) (h:(zJ.sl 99).R W W.heap.size [G A p.length c] p)=>zhG (w:=W) (A:=A) (c:=c) (b:=⟨bF,bI,a0,bS⟩) (image:=1) h (by omega) hD.parts);have c2:fD b0:=⟨by omega,by omega⟩
 have c3:fD b1:=⟨by omega,by omega⟩
 have bl:=fh (show zn p ⟨bF,bI,a0,bS⟩ b0 b1=⟨[jq p ⟨bF,bI,a0,bS⟩ 0,jq p ⟨bF,bI,a0,bS⟩ 1],[b0,b1],qq p ⟨bF,bI,a0,bS⟩ (jq p ⟨bF,bI,a0,bS⟩ 0) (jq p ⟨bF,bI,a0,bS⟩ 1) b0 b1 (zp p).length 0⟩ from rfl);have ah:=fh (Cr hD.ok hD.short hD.four hb h0 h1);have aR:=fh (JC hD.ok hD.short hb);have a2:=fh (yG hD.ok hD.short hb (b0:=b0) (b1:=b1) (zp p).length 0 (by omega))
 have z0:(jq p ⟨bF,bI,a0,bS⟩ 0).Code.size<=1000000:=by
  have:=(wC (image:=0) hD.ok hD.short hb rfl).1;simp only[jr,Q4,Rg] at this;exact this.1
 have z1:(jq p ⟨bF,bI,a0,bS⟩ 1).Code.size<=1000000:=by
  have:=(wC (image:=1) hD.ok hD.short hb rfl).1;simp only[jr,Q4,Rg] at this;exact this.1
 rw[bl.out] at aD ah |-;generalize jq p ⟨bF,bI,a0,bS⟩ 0=i0 at ar a2 ah aR aD z0 |-;generalize jq p ⟨bF,bI,a0,bS⟩ 1=i1 at au a2 ah aR aD z1 |-;have aQ:=fh aD;clear aD bl hb;have z0:i0.Code.size<=9223372036854775807:=by omega
 have z1:i1.Code.size<=9223372036854775807:=by omega
 obtain⟨nf,aL⟩:∃ nf,(zp p).length=nf:=⟨_,rfl⟩
 have bi:=hD.four;rw[aL] at a2 aQ ah bi;have ax:=fh aL;obtain⟨aM,aj⟩:∃ aM,qq p ⟨bF,bI,a0,bS⟩ i0 i1 b0 b1 nf 0=aM:=⟨_,rfl⟩
 rw[aL];rw[aj] at a2 aQ ah |-;have aT:=fh aj;clear aj aL;have EB:=QO w (F #[J C bF,J C bI,H a0,H bS] 71);have ER:((w.alloc (F #[J C bF,J C bI,H a0,H bS] 71)).alloc (F #[G D 0 0,G D 0 0,G D 0 0] 28)).heap[w.heap.size+1]?=Z (F #[G D 0 0,G D 0 0,G D 0 0] 28 (0,0)):=by have h:=QO (w.alloc (F #[J C bF,J C bI,H a0,H bS] 71)) (F #[G D 0 0,G D 0 0,G D 0 0] 28);rw[Rf] at h;exact h
 have EB:=zj EB (show ft _ ((w.alloc (F #[J C bF,J C bI,H a0,H bS] 71)).alloc (F #[G D 0 0,G D 0 0,G D 0 0] 28)) from gG);have bs:ft w ((w.alloc (F #[J C bF,J C bI,H a0,H bS] 71)).alloc (F #[G D 0 0,G D 0 0,G D 0 0] 28)):=gG;have ag:=fh EB;have a8:=fh ER;clear EB ER;go_enter func70,ntmps70;go_upto_region 3 with(first | (go_at_call 102;(with_reducible refine(zaD (Ty.up _ hx bs) (by omega) bL.out).mono ?_);rw[bM.out];rintro e w1 ⟨rfl,ba⟩;have ag:=fh (zj ag.out ba);have a8:=fh (zj a8.out ba);have aw:=fh (bs.trans ba);obtain⟨x0,x1,x2,x3,xf,xl⟩:=iJ ag.out) | (go_at_call 104;(with_reducible refine(bG.out _).mono ?_);rw[bE.out];rintro e Y ⟨rfl,bb⟩;have ag:=fh (zj ag.out bb);have a8:=fh (zj a8.out bb);have aw:=fh (aw.out.trans bb);obtain⟨x0,x1,x2,x3,xf,xl⟩:=iJ ag.out));obtain⟨g5,bc⟩:∃ q,w.heap.size=q:=⟨_,rfl⟩
 obtain⟨g8,bd⟩:∃ q,g5+1=q:=⟨_,rfl⟩
 rw[bc] at ag a8 x0 x1 x2 x3 xl |-;rw[bd] at a8 |-;have bH:=fh bc;have bJ:=fh bd;have HX:=fh (Ty.up _ hx aw.out);clear bc bd xf;go_cut [10] from 24 to 35 (fun v wx=>∃ g l n S,v=.pointer (Z ⟨g,0,D⟩)/\sm Y wx g l n S i0 i1 b0 b1)
 case first=>
  have SB:∀{W9:U},ft Y W9->QL W9 ⟨g5,0,D⟩=Z (J C bF)/\QL W9 ⟨g5,1,D⟩=Z (J C bI)/\QL W9 ⟨g5,2,D⟩=Z (H a0)/\QL W9 ⟨g5,3,D⟩=Z (H bS):=fun h=>⟨za h x0,za h x1,za h x2,za h x3⟩;refine jT (fun w'=>QL w' ⟨g5,0,D⟩=Z (J C bF)/\QL w' ⟨g5,1,D⟩=Z (J C bI)/\QL w' ⟨g5,2,D⟩=Z (H a0)/\QL w' ⟨g5,3,D⟩=Z (H bS)) 12 (by kernel_rfl) ⟨zc x0,zc x1,zc x2,zc x3⟩ (fun hH=>?_);have HG:ft Y Y.drew:=(ft.refl _).drew;generalize Y.drew=Wx at HG hH |-
  repeat' first
   | (revert hK;intro hK
      first
       | ((fail_if_success clear D2)
          refine sC Ft rfl rfl (ar.out _ (Ty.up _ HX.out HG)) ?_ ?_
          ·go_simp
          rintro e Wx ⟨A4,c4,S4,rfl,a3,ao,hg⟩
          refine⟨_,rfl,?_⟩
          try have n4:=Dq ao eg
          have q4:=IZ HG ao
          try have a4:=a4.fx hg
          try have el:=zj el hg
          try have en:=zj en hg
          try have eg:=zj eg hg
          have HG:=HG.trans hg
          clear hg ao
          refine hK.out _ _ (SB HG) ?_
          clear hK
          have D2:=trivial
          try simp only[gO])
       | ((fail_if_success clear D5)
          refine sC Ft rfl rfl (au.out _ (Ty.up _ HX.out HG)) ?_ ?_
          ·go_simp
          rintro e Wx ⟨A5,c5,S5,rfl,a4,b4,hg⟩
          refine⟨_,rfl,?_⟩
          try have n5:=Dq b4 eg
          have q5:=IZ HG b4
          try have a3:=a3.fx hg
          try have el:=zj el hg
          try have en:=zj en hg
          try have eg:=zj eg hg
          have HG:=HG.trans hg
          clear hg b4
          refine hK.out _ _ (SB HG) ?_
          clear hK
          have D5:=trivial
          try simp only[gO])
       | (go_simp
          first
           | ((fail_if_success clear D6)
              obtain⟨hg,el,ql⟩:=Dj HG (F #[V i0.Code,G A4 i0.fm.length c4,V i1.Code,G A5 i1.fm.length c5] 103)
              refine hK.out _ _ (SB (HG.trans hg)) ?_
              try have nl:=(Be eg).symm
              clear hK
              try have a3:=a3.fx hg
              try have a4:=a4.fx hg
              try have en:=zj en hg
              try have eg:=zj eg hg
              have HG:=HG.trans hg
              clear hg
              generalize hx:Wx.heap.size=l at el ql |-
              try rw[hx] at nl
              clear hx
              obtain⟨Wx,hW⟩:∃ QH,RR Wx (F #[V i0.Code,G A4 i0.fm.length c4,V i1.Code,G A5 i1.fm.length c5] 103)=QH:=⟨_,rfl⟩
              rw[hW] at el HG |-
              try rw[hW] at a3
              try rw[hW] at a4
              try rw[hW] at en
              try rw[hW] at eg
              clear hW
              have D6:=trivial
              try simp only[gO])
           | ((fail_if_success clear D9)
              obtain⟨hg,en,qn⟩:=Dj HG (F #[J C b0,J C b1] 3)
              refine hK.out _ _ (SB (HG.trans hg)) ?_
              try have nn:=(Be eg).symm
              clear hK
              try have a3:=a3.fx hg
              try have a4:=a4.fx hg
              try have el:=zj el hg
              try have eg:=zj eg hg
              have HG:=HG.trans hg
              clear hg
              generalize hx:Wx.heap.size=n at en qn |-
              try rw[hx] at nn
              clear hx
              obtain⟨Wx,hW⟩:∃ QH,RR Wx (F #[J C b0,J C b1] 3)=QH:=⟨_,rfl⟩
              rw[hW] at en HG |-
              try rw[hW] at a3
              try rw[hW] at a4
              try rw[hW] at el
              try rw[hW] at eg
              clear hW
              have D9:=trivial
              try simp only[gO])
           | ((fail_if_success clear a1)
              obtain⟨hg,eg,qg⟩:=Dj HG (F #[G D 0 0,G D 0 0,G D 0 0] 28)
              refine hK.out _ _ (SB (HG.trans hg)) ?_
              try have n4:=IV a3
              try have n5:=IV a4
              try have nl:=Be el
              try have nn:=Be en
              clear hK
              try have a3:=a3.fx hg
              try have a4:=a4.fx hg
              try have el:=zj el hg
              try have en:=zj en hg
              have HG:=HG.trans hg
              clear hg
              generalize hx:Wx.heap.size=g at eg qg |-
              try rw[hx] at n4
              try rw[hx] at n5
              try rw[hx] at nl
              try rw[hx] at nn
              clear hx
              obtain⟨Wx,hW⟩:∃ QH,RR Wx (F #[G D 0 0,G D 0 0,G D 0 0] 28)=QH:=⟨_,rfl⟩
              rw[hW] at eg HG |-
              try rw[hW] at a3
              try rw[hW] at a4
              try rw[hW] at el
              try rw[hW] at en
              clear hW
              have a1:=trivial
              try simp only[gO])))
   | ((fail_if_success clear T0);refine fA.st 0 [12] (SB HG) ?_;have T0:=trivial;try simp only[gO])
   | ((fail_if_success clear T1);refine fA.st 1 [12] (SB HG) ?_;have T1:=trivial;try simp only[gO])
   | ((fail_if_success clear T3);refine fA.st 3 [12] (SB HG) ?_;have T3:=trivial;try simp only[gO])
   | ((fail_if_success clear T4);refine fA.st 4 [12] (SB HG) ?_;have T4:=trivial;try simp only[gO])
   | ((fail_if_success clear T7);refine fA.st 7 [12] (SB HG) ?_;have T7:=trivial;try simp only[gO])
   | ((fail_if_success clear T8);refine fA.st 8 [12] (SB HG) ?_;have T8:=trivial;try simp only[gO])
   | ((fail_if_success clear bP);revert D2 D5 D6 D9;intro D2 D5 D6 D9;refine fA.st 10 [12] (SB HG) ?_;have bP:=trivial;try simp only[gO])
   | (revert D2 D5 D6 D9 a1;intro D2 D5 D6 D9 a1
      refine fA.sl (fun K hK=>?_)
      obtain⟨k0,k1,k2,kf,kl⟩:=jc eg
      go_simp
      refine hK.out _ _ ?_
      clear hK
      try simp only[gO]
      have HV:=sm.of HG el en eg a3 a4 z0 z1 q4 q5 ql qn qg n4 n5 nl nn c2 c3
      go_wp2_with(fail)
      go_meet
      exact⟨_,_,_,_,rfl,HV⟩)
   | (revert D2 D5 D6 D9;intro D2 D5 D6 D9;refine fA.s1 11 (fun K hK=>?_))
   | (revert D2 D5 D6 a1;intro D2 D5 D6 a1;refine fA.s1 9 (fun K hK=>?_))
   | (revert D2 D5 D9 a1;intro D2 D5 D9 a1;refine fA.s1 6 (fun K hK=>?_))
   | (revert D2 D5 D6;intro D2 D5 D6;refine fA.s2 9 11 (fun K hK=>?_) (fun K hK=>?_))
   | (revert D2 D5 D9;intro D2 D5 D9;refine fA.s2 6 11 (fun K hK=>?_) (fun K hK=>?_))
   | (revert D2 D5 a1;intro D2 D5 a1;refine fA.s2 6 9 (fun K hK=>?_) (fun K hK=>?_))
   | (revert D2 D9 a1;intro D2 D9 a1;refine fA.s1 5 (fun K hK=>?_))
   | (revert D2 D5;intro D2 D5;refine fA.s3 6 9 11 (fun K hK=>?_) (fun K hK=>?_) (fun K hK=>?_))
   | (revert D2 D9;intro D2 D9;refine fA.s2 5 11 (fun K hK=>?_) (fun K hK=>?_))
   | (revert D2 a1;intro D2 a1;refine fA.s2 5 9 (fun K hK=>?_) (fun K hK=>?_))
   | (revert D9 a1;intro D9 a1;refine fA.s1 2 (fun K hK=>?_))
   | (revert D2;intro D2;refine fA.s3 5 9 11 (fun K hK=>?_) (fun K hK=>?_) (fun K hK=>?_))
   | (revert D9;intro D9;refine fA.s2 2 11 (fun K hK=>?_) (fun K hK=>?_))
   | (revert a1;intro a1;refine fA.s2 2 9 (fun K hK=>?_) (fun K hK=>?_))
   | (refine fA.s3 2 9 11 (fun K hK=>?_) (fun K hK=>?_) (fun K hK=>?_))
 obtain⟨g,l,n,SI,rfl,HV⟩:=hcut;have aI:=HV.fx;generalize hV:wc=QH at HV aI |-;clear hV;go_wp2_with(fail);go_loopw [11] (fun z wr=>∃(f nE:Nat) (AE:X Ri) (cE:Nat) (es:Q Int) (SE:Q Nat),z=J C f/\f<=nf/\Hid (es++qq p ⟨bF,bI,a0,bS⟩ i0 i1 b0 b1 (nf-f) f=aM)/\Hid (nA QH wr g l n AE nE cE es SE)) (fun z _=>nf-(Ry z).toNat)
 case atStart=>exact⟨0,0,D,0,[],[],rfl,QX _,fh (by rw[Nat.sub_zero];exact aT.out),fh ⟨fw.refl _ _,HV.bx,Has.nil _ _ _,fun b hb=>(by cases hb),rfl⟩⟩
 obtain⟨f,nE,AE,cE,es,SE,rfl,hf,bk,HW⟩:=hrel;have ct:=HV.sg;have ay:ft Y wr:=HW.out.only.fx aI (fun b hb=>by simp only[QN] at hb;omega);by_cases hlt:f<nf
 ·have bh:(f:Int)<((zp p).length:Int):=by rw[ax.out];omega
  have cB:QP C ((f:Int)+1)=(f:Int)+1:=iw;have az:=Ty.up _ HX.out ay;go_upto_region 7 with(go_at_call 106;(with_reducible refine(zbB az (by omega)).mono ?_);rintro e W1 ⟨B1,d1,T1,rfl,b2,b5,al⟩);have a5:=HW.out.more al;have am:=ay.trans al;obtain⟨x0,x1,x2,x3,xf,xl⟩:=iJ (zj ag.out am);obtain⟨im,ad⟩:∃ im:Nat,(if bS=M/\f % 2=1 then 1 else 0)=im:=⟨_,rfl⟩
  have ae:im<2:=by rw[<-ad];split <;> omega
  have aA:=Pu (show f<=3 by omega);go_upto_if 43 with(fail)
  go_cut [12] from 44 to 46 (fun v wx=>v=J C (im:Int)/\W1=wx)
  case first=>
   cases bS with
   | true=>
    have aG:((f % 2:Nat):Int)=(im:Int):=by
     rw[<-ad];by_cases h:f % 2=1
     ·rw[Q5 ⟨rfl,h⟩];omega
     ·rw[QZ (fun hh=>h hh.2)];omega
    rw[aG] at aA;clear ad aG;go_wp2_with(fail);go_meet;exact⟨rfl,rfl⟩
   | false=>
    have aG:im=0:=by rw[<-ad,QZ (fun hh=>by cases hh.1)]
    subst aG;clear ad;go_wp2_with(fail);go_meet;exact⟨rfl,rfl⟩
  obtain⟨rfl,rfl⟩:=hcut;obtain⟨QD,an⟩:∃ QD,[i0,i1][im]?=Z QD:=⟨_,QW (by simpa using ae)⟩
  obtain⟨bv,b7⟩:∃ bv,[b0,b1][im]?=Z bv:=⟨_,QW (by simpa using ae)⟩
  have c6:1<=bv/\bv<=1000000:=by
   have:bv=b0∨bv=b1:=by
    have:=Q9 b7;simpa using this
   omega
  obtain⟨ln,bg⟩:∃ v,(zp p)[f]?=Z v:=⟨_,QW (by rw[ax.out];exact hlt)⟩
  obtain⟨j,rfl,aN,af,_⟩:=vH bg;have cf:=(QM.1 af).1;have aP:=fh an;have aO:=fh b7;have bm:=fh bg;have bO:=fh af;have bK:=fh (wK af);have aS:=fh (aR.out QD (Q9 an))
  have cp:QD.fm.length<=10000000:=by
   have h1:=ah.out;have h2:=vM lV (xs:=[i0,i1]) an;unfold jP at h1;have h4:lV QD=QD.Code.size+lH sJ QD.fm:=rfl;have h3:=ye sJ QD.fm;simp only at h1;omega
  clear an b7 bg af aA x0 x1 x2 x3 xf xl am b2 b5 al az ay;have bN:=fh a5;have av:=bk;go_wp2_with(fail);go_loopw [13] (fun z wr=>∃(k nE:Nat) (AE:X Ri) (cE:Nat) (ak:Q Int) (SE:Q Nat),z=J C k/\k<=QD.fm.length/\Hid (ak++wP QD bv aN.Name k=es++qv QD bv aN.Name)/\Hid (nA QH wr g l n AE nE cE ak SE)) (fun z _=>QD.fm.length-(Ry z).toNat)
  case atStart=>exact⟨0,nE,AE,cE,es,SE,rfl,QX _,fh rfl,fh a5⟩
  clear a5 bN HW
  case round=>
   obtain⟨k,nE,AE,cE,ak,SE,rfl,hk,aE,HW⟩:=hrel;have bp:ft Y wr:=HW.out.only.fx aI (fun b hb=>by simp only[QN] at hb;omega);have br:=Ty.up _ HX.out bp;obtain⟨y0,y1,y2,yf,yl⟩:=jc HW.out.bx;obtain⟨gI,oI,I',A0,c0,aV,cu,an,bn,bo,_,bz⟩:=qW (Ty.read _ (nA.xn HV HW.out)) (k:=im) (by simpa using ae);injection aV with aV
   injection aV with e1 e2
   subst e1 e2;simp only[Rk] at bn bo;obtain rfl:I'=QD:=by have:=aP.out;rw[an] at this;injection this
   have ce:(im:Int)<2:=by omega
   by_cases hkl:k<I'.fm.length
   ·have bf:(k:Int)<(I'.fm.length:Int):=by omega
    have cC:QP C ((k:Int)+1)=(k:Int)+1:=iw;obtain⟨gs,os,x,bV,cv,bj,s0,s1,s2,_,cz,_⟩:=qm bz (k:=k) hkl;subst bV;go_upto_region 14 with(fail);have ex:=QO wr (F #[V x.Name,J C x.Start,J C x.gK] 137);have aJ:ft wr (wr.alloc (F #[V x.Name,J C x.Start,J C x.gK] 137)):=(ft.refl _).alloc _;have b6:=HW.out.more aJ;have aH:=Ty.up _ br aJ;have be:QH.heap.size<=wr.heap.size:=HW.out.only.size;have bD:wr.heap.size∉SE:=fun hm=>TS _ (HW.out.xm.lt _ hm);have cl:wr.heap.size≠g:=TY (blt HW.out.bx);obtain⟨gx,bu⟩:∃ q,wr.heap.size=q:=⟨_,rfl⟩
    rw[bu] at ex be bD cl |-;generalize (wr.alloc _)=QJ at ex aJ b6 aH |-;clear bu aJ bp br y0 y1 y2 yf yl bn bo bz s0 s1 s2 HW;obtain⟨t0,t1,t2,tf,tl⟩:=jc ex;have aU:=fh b6;obtain⟨gp,op,yl,B0,d0,B2,d2,bT,cd,bB,_,pc,_⟩:=lK aH (k:=j) cf;obtain rfl:yl=aN:=by have:=bO.out;rw[bB] at this;injection this
    subst bT;have cw:(j:Int)<(p.length:Int):=by omega
    go_cut [77] from 66 to 78 (fun v wx=>v=H (decide (x.Name=yl.Name))/\Hid (ft QJ wx))
    case first=>
     go_region_law (first | (go_simp;go_at_call 106;refine(zbB (Ty.up _ aH (ft.drew (ft.refl _))) (by omega)).mono ?_;rintro e W2 ⟨B3,d3,T3,rfl,bZ,cq,aZ⟩;have aY:=ft.trans (ft.drew (ft.refl QJ)) aZ;obtain⟨gq,oq,vq,bU,ci,cs,_⟩:=lI bZ.read (k:=f) (by rw[ax.out];exact hlt);subst bU;obtain rfl:vq=(j:Int):=(by have:=bm.out;rw[ci] at this;injection this);have t0:=za aY t0;have pc:=za aY pc;have cy:(f:Int)<((zp p).length:Int):=(by rw[ax.out];omega)))
     all_goals
      go_wp2_with(fail)
      go_meet
      refine⟨?_,fh aY⟩
      rw[lp]
    obtain⟨rfl,aF⟩:=hcut;have a6:=fh (aU.out.more aF.out);have bq:=fh (za aF.out t1);have ai:gx<wc.heap.size:=QS tl aF.out.size;have ca:=fh (aU.out.only.size);have aB:g<QH.heap.size:=(jc HV.bx).2.2.2.2;have bC:g∉SE:=fun hm=>by have:=a6.out.lo g hm;omega
    have ch:n<QH.heap.size:=(zr.sl 3).ja HV.Bm n (.head _);have ck:n∉SE:=fun hm=>by have:=a6.out.lo n hm;omega
    have c8:nE<=10000010:=by
     have h1:=Sg List.length aE.out;have h2:=Sg List.length av.out;have h3:=a6.out.len;have h4:(qv I' bv yl.Name).length<=I'.fm.length:=by unfold qv;rw[Uc];exact Uq _ _
     have h5:=a2.out;simp only[QR] at h1 h2;omega
    clear t0 t1 t2 tf tl ex b6 aH pc bB cd;by_cases hnm:x.Name=yl.Name
    ·rw[QY hnm]
     have cj:=aS.out x (Q9 bj);have cD:QP C (bv+x.Start)=bv+x.Start:=iw;obtain⟨gb,ob,bQ,aW,b8,b9,_⟩:=lI (Ty.read _ (nA.xk HV a6.out)) (k:=im) (by simpa using ae);injection aW with aW
     injection aW with e1 e2
     subst e1 e2;obtain rfl:bv=bQ:=by have:=aO.out;rw[b8] at this;injection this with this;exact this.symm
     simp only[Rk] at b9;obtain⟨y0,y1,y2,yf,cm⟩:=jc a6.out.bx;have bA:=bq.out;go_upto_region 15 with(fail);have aK:ft wc wc.drew:=(ft.refl _).drew;refine jT (fun w'=>QL w' ⟨g,2,D⟩=Z (G AE nE cE)/\QL w' ⟨g,1,D⟩=Z (G (Z ⟨n,0,D⟩) 2 2)/\QL w' ⟨n,im,D⟩=Z (J C bv)/\QL w' ⟨gx,1,D⟩=Z (J C x.Start)) 13 (by kernel_rfl) ⟨zc y2,zc y1,zc b9,zc bA⟩ (fun hH=>?_);have a6:=fh (a6.out.more aK);have ai:gx<wc.drew.heap.size:=ai;obtain⟨a9,aa,ab,ac⟩:=id hH;generalize wc.drew=Wx at a6 ai a9 aa ab ac hH |-;clear aK y0 y1 y2 yf cm b9 bA bq aF aU;refine .tq 0 [13] hH ?_
     try simp only[gO]
     refine .tq 1 [13] hH ?_
     try simp only[gO]
     refine .tq 2 [13] hH ?_
     try simp only[gO]
     refine .tq 3 [13] hH ?_
     try simp only[gO]
     refine .tq 4 [13] hH ?_
     try simp only[gO]
     refine .tq 5 [13] hH ?_
     try simp only[gO]
     refine .tq 6 [13] hH ?_
     try simp only[gO]
     refine .tq 7 [13] hH ?_
     try simp only[gO]
     refine .tq 8 [13] hH ?_
     try simp only[gO]
     refine .tq 9 [13] hH ?_
     try simp only[gO]
     refine fA.s1 10 (fun K hK=>?_);go_simp;have hg:ft Wx (Wx.alloc (F #[J C (bv+x.Start)] 3)):=(ft.refl _).alloc _;have eq:=QO Wx (F #[J C (bv+x.Start)] 3);have ap:=fh (a6.out.more hg);have a9:=za hg a9;have aa:=za hg aa;have ab:=za hg ab;have ac:=za hg ac;clear hg;refine hK.out _ _ ⟨a9,aa,ab,ac⟩ ?_;clear hK;have aC:gx<(RR Wx (F #[J C (bv+x.Start)] 3)).heap.size:=by rw[Rf];omega
     obtain⟨gq,bt⟩:∃ q,Wx.heap.size=q:=⟨_,rfl⟩
     rw[bt] at eq |-;clear bt a6;generalize RR Wx (F #[J C (bv+x.Start)] 3)=Wq at eq ap a9 aa ab ac aC |-
     try simp only[gO]
     refine fA.s1 11 (fun K hK=>?_);have cg:zr.R Wq Wq.heap.size [J C (bv+x.Start)] (bv+x.Start):=⟨rfl,by omega,by omega⟩
     refine zW (L:=nE+1) rfl (.tmp 79) (.tmp 88) mg zD ap.out.xm cg rfl rfl rfl (by intro j u hu;rw[RV Wq gq _ _ _ (0,0) eq];simpa using hu) rfl (by omega) (by omega) ?_;intro B4 d4 W4 S4 aq a3 ao;have bw:=fh (nA.push ap.out aB aq a3 ao);have a9:=(aq.cell (by have:=ap.out.only.size;omega) bC _).trans a9;have aa:=(aq.cell (by have:=ap.out.only.size;omega) bC _).trans aa;have ab:=(aq.cell (by have:=ap.out.only.size;omega) ck _).trans ab;have ac:=(aq.cell aC bD _).trans ac;refine hK.out _ _ ⟨a9,aa,ab,ac⟩ ?_;clear hK aq a3 ao
     try simp only[gO]
     refine .tq 12 [13] ⟨a9,aa,ab,ac⟩ ?_
     try simp only[gO]
     obtain⟨k0,k1,k2,kf,kl⟩:=jc bw.out.1;refine fA.sl (fun K hK=>?_);go_simp;refine hK.out _ _ ?_;clear hK
     try simp only[gO]
     go_wp2_with(fail);go_roundw;exact⟨k+1,nE+1,B4,d4,ak++[bv+x.Start],S4,by go_num,by omega,fh (by rw[<-aE.out,Em bj,Q5 hnm,Rw]),fh bw.out.2⟩;exact gH
    ·rw[QT hnm]
     go_wp2_with(fail);go_roundw;exact⟨k+1,nE,AE,cE,ak,SE,by go_num,by omega,fh (by rw[<-aE.out,Em bj,QZ hnm,RC]),a6⟩;exact gH
   ·obtain rfl:k=I'.fm.length:=by omega
    have bf:¬ ((I'.fm.length:Int)<(I'.fm.length:Int)):=by omega
    go_wp2_with(fail);go_roundw
    case measure=>exact gH
    case rel=>
     refine⟨f+1,nE,AE,cE,ak,SE,by go_num,by omega,fh ?_,HW⟩;have hE:=aE.out;rw[JT (Q8 _),SC] at hE;have hT:=av.out;rw[show nf-f=(nf-(f+1))+1 by omega,qq] at hT;have aK:(zp p).getD f 0=(j:Int):=by rw[RG,bm.out];rfl
     have hI:(if bS=M/\f % 2=1 then qv i1 b1 (mc p ((zp p).getD f 0)) else qv i0 b0 (mc p ((zp p).getD f 0)))=qv I' bv aN.Name:=by
      rw[aK,bK.out];by_cases h:bS=M/\f % 2=1
      ·rw[Q5 h] at ad |-
       subst ad;have h1:=aP.out;have h2:=aO.out;simp only[Sw,RA,Rv] at h1 h2;rw[h1,h2]
      ·rw[QZ h] at ad |-
       subst ad;have h1:=aP.out;have h2:=aO.out;simp only[RA,Rv] at h1 h2;rw[h1,h2]
     rw[hI,<-Rw,<-hE] at hT;exact hT
 ·obtain rfl:f=nf:=by omega
  have bh:¬ ((f:Int)<((zp p).length:Int)):=by rw[ax.out];omega
  have az:=Ty.up _ HX.out ay
  have c7:es=aM:=by
   have h:=bk.out;rw[RP] at h;simpa[qq] using h
  subst c7;go_upto_region 16 with(go_at_call 106;(with_reducible refine(zbB az (by omega)).mono ?_);rintro e W1 ⟨B1,d1,T1,rfl,b2,b5,al⟩);have a5:=HW.out.more al;have am:=ay.trans al;have b3:=nA.xn HV a5;have aX:=nA.xk HV a5;have bX:=a5.xm.read;obtain⟨y0,y1,y2,yf,yl⟩:=jc a5.bx;clear b2 b5 az;go_wp2_with(go_at_call 41;(with_reducible refine(NR (Ty.read _ b3) (Ty.read _ aX) bX a5.len (by have:=ah.out;omega)).mono ?_);rw[aQ.out];rintro e W2 ⟨rfl,a7⟩;have y0:=za a7 y0;have y1:=za a7 y1;have y2:=za a7 y2;obtain⟨z0,z1,z2,zf,zl⟩:=jc (zj a8.out (am.trans a7)));have cn:=bH.out;have co:=bJ.out;have cA:=aw.out.size;have bR:=zj a8.out (am.trans a7);have cx:=(blt a8.out)
  obtain⟨e9,o9⟩:=rB bR (G (Z ⟨l,0,D⟩) 2 2) (G (Z ⟨n,0,D⟩) 2 2) (G AE nE cE);have cc:=o9.fx (aw.out.trans (am.trans a7)) (fun b hb=>by simp only[QN] at hb;omega);have c1:=(iL.sl 103).gD ((iL.sl 103).jg b3 a7) (fun b hb=>o9.block b (QS ((iL.sl 103).ja b3 b hb) a7.size) (by have:=(HV.si b hb).1;simp only[QN];omega));have bW:=(zr.sl 3).gD ((zr.sl 3).jg aX a7) (fun b hb=>o9.block b (QS ((zr.sl 3).ja aX b hb) a7.size) (by have:=HV.sn.1;rw[QN.1 hb];simp only[QN];omega));have cr:=aI.size;have bY:=(a5.xm.fx a7).fJ o9 (fun b hb hm=>by simp only[QN] at hm;have:=a5.lo b hb;omega);obtain⟨r0,r1,r2,_,_⟩:=jc e9;obtain rfl:=a5.len;refine QU (v:=.tuple #[.agg #[G (Z ⟨l,0,D⟩) 2 2,G (Z ⟨n,0,D⟩) 2 2,G AE es.length cE],H M]) (by simp[Rd,results70,go_sem,r0,r1,r2]) rfl ?_
  exact⟨_,_,_,_,_,_,_,rfl,Ml (x:=⟨[i0,i1],[b0,b1],es⟩) _ _ _ _ _ _ _ _ _ c1 bW bY.1,fun b hb=>by
   rcases Q7.1 hb with hb | hb
   ·rcases Q7.1 hb with hb | hb
    ·have:=(HV.si b hb).1;omega
    ·have:=HV.sn.1;rw[QN.1 hb];omega
   ·have:=a5.lo b hb;omega,cc⟩
end Go.Proofs.YthgbglbaemelhaaGreat
