/-
  PART.
-/
import Derived.Test.YthgbglbaemelhaaGreatM10LawRecords
import Derived.Test.YthgbglbaemelhaaGreatM11LawRecords
set_option linter.unusedVariables false
set_option linter.unusedSimpArgs false
set_option maxRecDepth 100000
set_option maxHeartbeats 8000000
namespace Go.Proofs.YthgbglbaemelhaaGreat
open Value renaming slice->J,int->C,bool->X,string->Q
open IntKind renaming i64->Z,wrap->Vl
open Option renaming none->I,some->F,getD_some->WM
open Obj renaming cells->U
open Bool renaming false->M,true->H
open Go renaming World->V,results->VF,Calls->VK,Addr->VQ,TypeId->Wl,Ending->Z9,yielded->Xb,undef->Yd
open World renaming cell?->Vg,frozen?->VE
open _root_.Int renaming toNat_natCast->Vy
open List renaming length_cons->VC,getElem?_cons_zero->VU,length_nil->VZ,length_singleton->Wi,nil_append->Wo
open RowKit renaming intOf->Wj
open Region renaming wanted->V6,ready->Wv,noSelect->XV,Mode->XY,free->YI
open Tryz
open Go.RowKit
variable {A:N VQ}{S S' S0:D Nat}{W W' Wa a w:V}{b:gP}{c f g i k lo m n:Nat}{e:Wl}{image sk fO:Int}{l:D fX}{p:D fB}{q:fR}{r:D Value}{rs:D (D Value)}{st:D Int}{u v:Value}{x:fX}{xs:D gC}
theorem GV {P:kw}(hR:sr P):∀ d:Nat,DA P d
 | 0=>zq6 hR (OH hR.env)
 | d+1=>zq6 hR (OG hR (GV hR d))
def qW (p:D fB)(b:gP)(f:Nat)(fO:Int)(g:Int):gw:=⟨p,b.gN,kZ b f,fO,((zD p g).length:Int)⟩
def rz (p:D fB)(g:Int):fV:=⟨g,[],zu p g,0,H,[]⟩
def qJ (p:D fB)(b:gP)(f:Nat)(fO:Int)(g:Int):gA:=(zC (qW p b f fO g) ⟨[],0,((zu p g).length:Int)-((zD p g).length:Int),M⟩ (if kZ b f=H then 13 else 15) fO g []).gR fO
theorem Ou {g:Int} (hg:(zn p)[f]?=F g):lI p b f fO=((zX (qW p b f fO g) 4 [g] (rz p g) (qJ p b f fO g)).1.fx,(zX (qW p b f fO g) 4 [g] (rz p g) (qJ p b f fO g)).1.most):=by
 unfold lI;rw[hg];rfl
theorem QZ {g:Int} (hp:lq p)(hb:gE b.gN 0 3=H)(hg:(zn p)[f]?=F g)(hw:0<=fO/\fO<=100) :
  iH (qW p b f fO g)/\iS (qW p b f fO g) (rz p g)/\jt (qW p b f fO g) (qJ p b f fO g)/\∃(i e:Nat) (x:fB),g=(i:Int)/\p[i]?=F x/\x.gD=zD p g/\gZ p i e/\x.gD.length<=4/\(zu p g).length<=8/\x.gD.length<=(zu p g).length:=by
 have a2:=vI hg
 have hE:iH (qW p b f fO g):=by
  obtain⟨i,rfl,x,hx,h0⟩:=a2;have:=hp.args i x hx;exact⟨hp,zr.1 hb,hw,by unfold qW;rw[uo hx];exact⟨by simp only;omega,by simp only;omega⟩⟩
 have a0:=a2.parts hE;simp only[qW] at a0;obtain⟨i,rfl,x,hx,h0⟩:=a2;obtain⟨e,he,h8,a3⟩:=hp.body i x hx h0;have a7:=(Vh.1 hx).1;have a5:=uo hx
 have hs:iS (qW p b f fO i) (rz p i):=by
  refine⟨⟨i,e,x,rfl,hx,h0,he,a3⟩,⟨rfl,h8⟩,⟨Xv _,by simp[rz]⟩,⟨by simp[rz],fun c hc=>(by cases hc)⟩,fun _=>⟨rfl,rfl,by show ((zD p (i:Int)).length:Int)<=((zu p (i:Int)).length:Int);omega⟩⟩
 have hm:jt (qW p b f fO i) (qJ p b f fO i):=by
  refine⟨?_,by simp[qJ,zC,gA.gR]⟩;intro j y hy;have a6:=(Vh.1 hy).1;simp only[qJ,gA.gR,zC,Wo,VC,VZ] at a6;have hj:j=0:=by omega
  subst hj;simp only[qJ,gA.gR,zC,Wo,VU,VO] at hy;subst hy;have a4:lC p (i:Int)=0:=by rw[vL hx];exact h0
  simp only[qJ,gA.gR,zC,Wo,mP,VZ,Yp,decide_false,Zn];have a1:(if kZ b f=H then (13:Int) else 15)=13∨(if kZ b f=H then (13:Int) else 15)=15:=by split <;> simp
  generalize (if kZ b f=H then (13:Int) else 15)=code at a1;refine⟨by simp only;omega,fun h=>by simp only at h;omega,fun h h'=>by simp only at h h';omega,fun h=>by simp only at h;omega,fun h=>by simp only at h;omega,fun _ _=>hw,fun h=>by simp only at h;omega,⟨by simp only;omega,by simp only[qW];omega⟩,⟨by simp,fun c hc=>(by cases hc)⟩,⟨by simp,by simp,fun h=>(by cases h)⟩,⟨fun _=>?_,fun _=>rfl⟩⟩;rcases a1 with h | h
  ·exact .inl h
  ·exact .inr ⟨h,a4⟩
 exact⟨hE,hs,hm,i,e,x,rfl,hx,a5.symm,he,hp.args i x hx,h8,by rw[<-a5];exact a0.2.1⟩
theorem Of {U6:Int} (h0:0<=U6)(h1:U6<=63)(f:Nat):(bits .and Z (U6 / 2 ^ f) 1 == 1)=decide (U6 / 2 ^ f % 2=1):=by
 obtain⟨n,rfl⟩:=VI h0;have he:((n:Int) / 2 ^ f)=((n / 2 ^ f:Nat):Int):=by rw[Int.natCast_ediv,Int.natCast_pow];rfl
 have a0:n / 2 ^ f<=n:=Nat.div_le_self _ _;rw[he,Dc _ fh];cases h:decide ((((n / 2 ^ f:Nat):Int)) % 2=1) with
 | true=>rw[YF] at h;rw[h];rfl
 | false=>rw[WA] at h;exact Vw.2 h
theorem Rh {j:Nat} (hc:Vg W ⟨g,i,I⟩=F v)(hn:i≠j):(W.setCell ⟨g,j,I⟩ u).cell? ⟨g,i,I⟩=F v:=by
 have h:(⟨g,i,I⟩:VQ)≠⟨g,j,I⟩:=fun e=>hn (by injection e);simpa[go_sem,h] using hc
theorem ji.up {P:kw} {m:gA} {rows:D (D Value)} {Ai As:N VQ} {ci cs:Nat} {Si Ss:D Nat} (h:ji P m rows W Ai ci Si As cs Ss)(hg:fy W W'):ji P m rows W' Ai ci Si As cs Ss:=
 ⟨zj h.box hg,h.iM.fH hg,h.px.fH hg,h.lG,h.gn,h.fH.trans hg,h.low⟩
def Dz (x:D fX × Int)(w:V)(r:Z9)(w':V):Prop:=∃ A c S,r=.returned (.tuple #[J A x.1.length c,C Z x.2])/\Has (qS.sl 227) w' [J A x.1.length c] x.1 S/\(∀ b∈S,w.heap.size<=b)/\fy w w'
theorem ww {g:Prop} (f:g:=by
  rw[HPG.out,hst2.out] at hN8
  generalize (w7.setCell _ _)=w8 at hN8 |-
  obtain⟨L8,hS8,_,_⟩:=hN8
  clear q9 qf ql hN7 hS7
  have hcall:=GV hR 3 ⟨I,0,[],A3,c3,S3⟩ (qJ p b f fO i) [] (rz p i) w8 L8 [] i e hS8 rfl gm (by rw[HPE.out];exact HS.out) rfl rfl rfl (by rw[HPE.out];exact HM.out) (by simp[qJ,zC,gA.gR]) rfl (by rw[HPE.out];exact HE.out) (by show 0<=fO;omega) (by show fO<=lD 4;unfold lD;omega)
  rw[HPG.out] at hcall
  go_upto_region 10 with(first | (go_at_call 204;refine hcall.mono ?_;rintro e9 w9 ⟨rfl,hN9⟩))
  obtain⟨L9,⟨Av9,cv9,Sv9,Lm9,hB9,_⟩,_,_⟩:=hN9
  obtain⟨Ai,ci,Si,As,cs,Ss,hM9,_⟩:=hB9.st
  have hbx9:=hM9.box
  rw[HPG.out] at hbx9
  obtain⟨q0,q1,q2,q3,q4,q5,q6,q7,q8,q9,q10,q11,q12,qf,ql⟩:=pH hbx9
  have HCC:Hid (lI p b f fO=((zX P.E (3+1) ([]++[(rz p i).f]) (rz p i) (qJ p b f fO i)).1.fx,(zX P.E (3+1) ([]++[(rz p i).f]) (rz p i) (qJ p b f fO i)).1.most)):=fk (by rw[HC.out,HPE.out];rfl)
  generalize (zX P.E (3+1) ([]++[(rz p i).f]) (rz p i) (qJ p b f fO i)).1=MR at hM9 q7 q10 HCC
  have hgF:fy w w9:=hgw1.trans (by have h:=hM9.fH;rwa [HPY.out] at h)
  have hlowS:∀ b∈Si,w.heap.size<=b:=fun b hb=>by have h:=hM9.low.2.1 b hb;rw[HPY.out] at h;exact VL hgw1.size h
  go_quiet (fail)
  go_wp2_with(fail)
  exact Vr (v:=.tuple #[J Ai MR.fx.length ci,C Z MR.most]) (by simp[VF,results196,go_sem]) rfl (show Dz (lI p b f fO) w _ _ from by rw[HCC.out];exact⟨Ai,ci,Si,rfl,hM9.iM.fH gF,hlowS,hgF.trans gF⟩)):g:=f
theorem zof (hx:(zS.sl 99).R w w.heap.size [J A p.length c] p)(hl:∀ x∈p,x.gD.length<=1099511627776/\x.Expr.length<=1099511627776)(hp:lq p)(hb:kC b=H)(hf:f<(zn p).length)(hw:0<=fO/\fO<=100) :
  VK prog 196 #[J A p.length c,C Z f,.agg #[C Z b.gW,C Z b.gN,X b.iO,X b.ic],C Z fO] w (Dz (lI p b f fO) w):=by
 have a9:=hb;unfold kC at a9;rw[Vt] at a9;have ay:=zr.1 a9.1;have bm:=zr.1 a9.2;obtain⟨g,hg⟩:∃ g,(zn p)[f]?=F g:=⟨_,Vq hf⟩
 obtain⟨hE,hS,hM,i,e,x,rfl,af,b8,he,aR,aY,bk⟩:=QZ hp a9.2 hg hw;have aX:=(Vh.1 af).1;have br:=hp.len;have bo:=hp.ov;have aA:p.length<=1099511627776:=fh;have HC:=fk (Ou (b:=b) (fO:=fO) hg);have bn:(f:Int)<((zn p).length:Int):=fh;have bq:(i:Int)<(p.length:Int):=fh;have aV:(bits .and Z (b.gW / 2 ^ f) 1 == 1)=kZ b f:=Of ay.1 ay.2 f;go_enter func196,ntmps196;go_upto_region 2 with(first | (go_at_call 106;refine(zb4 (Ty.up _ hx gF) aA).mono ?_;rintro e9 w1 ⟨A1,c1,S1,rfl,aN,bj,az⟩;obtain⟨gf,of,y1,aM,ao,bu,_⟩:=ma aN.read hf));obtain rfl:y1=(i:Int):=by rw[hg] at ao;injection ao with h;exact h.symm
 subst aM;obtain⟨gp,op,x',aI,aK,bb,be,rfl,bp,a6,x0,x1,x2,x3,_⟩:=nA hx aX;obtain rfl:x=x':=by rw[af] at a6;injection a6
 have eb:w1.heap[w.heap.size]?=F (U #[C Z b.gW,C Z b.gN,X b.iO,X b.ic] 71 (0,0)):=zj (Vj w _) az;have hgw1:fy w w1:=fy.trans (b:=_) gF az;have x2:=za hgw1 x2;obtain⟨gb,a5⟩:∃ g,w.heap.size=g:=⟨_,rfl⟩
 rw[a5] at eb |-;have bc:=fk a5;have bd:=fk af;have HG:=fk hg;clear a5 ao af a6 hg x0 x1 x3;obtain⟨b0,b1,b2,b3,bf,bl⟩:=jF eb;go_cut [11] from 17 to 33 (fun v wx=>∃ g,v=.pointer (F ⟨g,0,I⟩)/\fy w1 wx/\wx.heap[g]?=F (U #[J (F ⟨gp,op,I⟩) p.length c,C Z b.gW,C Z b.gN,X b.iO,X b.ic,X (kZ b f),C Z fO,C Z 0,C Z (zD p (i:Int)).length,C Z 0,J I 0 0,J I 0 0,X M] 251 (0,0))/\w1.heap.size<=g)
 case first=>
  go_region_held3 (fun w'=>Vg w' ⟨gb,0,I⟩=F (C Z b.gW)/\Vg w' ⟨gb,1,I⟩=F (C Z b.gN)/\Vg w' ⟨gb,2,I⟩=F (X b.iO)/\Vg w' ⟨gb,3,I⟩=F (X b.ic)/\Vg w' ⟨gp,op+i*4+2,I⟩=F (J aI x.gD.length aK)) ((repeat' apply Vm) <;> (first | ((repeat (first | assumption | with_reducible refine zd ?_ _ _ | with_reducible refine zq ?_ _ | with_reducible refine zc ?_));done) | (simp[go_sem];done))) (fail)
  all_goals go_wp2_with(fail)
  all_goals go_meet
  all_goals exact⟨_,rfl,gF,zj (Vj w1 _) gF,Vz _⟩
 case rest=>
  obtain⟨g,rfl,ae,ac,b4⟩:=hcut;clear aV x2;obtain⟨P,hP⟩:∃ P:kw,P=⟨qW p b f fO i,b,F ⟨gp,op,I⟩,c,g,w1⟩:=⟨_,rfl⟩
  have hR:sr P:=by rw[hP];exact⟨Ty.up _ hx hgw1,hl,hE⟩
  have aq:ji P ⟨[],0,0,M⟩ [] wc I 0 [] I 0 []:=by rw[hP];exact⟨ac,Has.nil _ _ _,Has.nil _ _ _,(fun b hb=>by cases hb),⟨gm,gm⟩,ae,⟨b4,(fun b hb=>by cases hb),(fun b hb=>by cases hb)⟩⟩
  have av:P.g=g:=by rw[hP]
  have au:P.Y=w1:=by rw[hP]
  obtain⟨z0,z1,z2,z3,z4,z5,z6,z7,z8,z9,aF,aG,aH,zf,zl⟩:=pH ac;have HP:=fk hP;have HPG:=fk av;have HPY:=fk au;have aJ:=fk aY;clear hP av au;go_upto_region 4 with(first | (go_at_call 191;refine(zje (Ty.up _ hx ((hgw1.trans ae).trans gF)) aA hl).mono ?_;rintro e9 w4 ⟨A3,c3,S3,rfl,ah,aw,ak⟩;have aT:=zj ac ak;obtain⟨z0,z1,z2,z3,z4,z5,z6,z7,z8,z9,aF,aG,aH,zf,zl⟩:=pH aT));have an:P.g<w4.heap.size:=by rw[HPG.out];exact zl
  obtain⟨gs,am⟩:∃ gs,w4.heap.size=gs:=⟨_,rfl⟩
  have a8:Has ((pm 6).sl 253) (w4.alloc (U #[C Z (i:Int),J I 0 0,J A3 (zu p i).length c3,C Z 0,X H,J I 0 0] 253)) [J (F ⟨w4.heap.size,0,I⟩) [[C Z (i:Int),J I 0 0,J A3 (zu p i).length c3,C Z 0,X H,J I 0 0]].length 1] [[C Z (i:Int),J I 0 0,J A3 (zu p i).length c3,C Z 0,X H,J I 0 0]] [w4.heap.size]:=
   ⟨qG (xs:=[[C Z (i:Int),J I 0 0,J A3 (zu p i).length c3,C Z 0,X H,J I 0 0]]) (Vj w4 _) ⟨[C Z (i:Int),J I 0 0,J A3 (zu p i).length c3,C Z 0,X H,J I 0 0],[],[],[],gm,rfl,⟨rfl,rfl,by intro u hu;simp only[VT,WB,Xy] at hu;rcases hu with rfl | rfl | rfl | rfl | rfl | rfl <;> rfl,rfl⟩,rfl,rfl⟩ gm,gm⟩
  have a7:=(aq.up ak).qA (W':=w4.alloc _) (((fy.refl w4).alloc _).only _) a8 (fun b hb=>.inr (by simp only[Vi] at hb;omega));rw[MD _ _ _ _ an,HPG.out] at a7
  have a1:((w4.setCell ⟨g,11,I⟩ (J (F ⟨w4.heap.size,0,I⟩) 1 1)).alloc (U #[C Z (i:Int),J I 0 0,J A3 (zu p i).length c3,C Z 0,X H,J I 0 0] 253)).heap[w4.heap.size]?=F (U #[C Z (i:Int),J I 0 0,J A3 (zu p i).length c3,C Z 0,X H,J I 0 0] 253 (0,0)):=by
   have h:=Vj (w4.setCell ⟨g,11,I⟩ (J (F ⟨w4.heap.size,0,I⟩) 1 1)) (U #[C Z (i:Int),J I 0 0,J A3 (zu p i).length c3,C Z 0,X H,J I 0 0] 253);have hz:(w4.setCell ⟨g,11,I⟩ (J (F ⟨w4.heap.size,0,I⟩) 1 1)).heap.size=w4.heap.size:=gm;rwa [hz] at h
  rw[Wi] at a7;rw[am] at a7 a1 |-;have ag:=fk am;clear am a8;generalize ((w4.setCell _ _).alloc _)=w5 at a7 a1 |-;obtain⟨ai,ar⟩:=a7;have a4:P.g∉S3:=fun hm=>by have h:=aw _ hm;rw[HPG.out] at h;omega
  have aa:gs∉S3:=fun hm=>by have h:=ah.lt _ hm;have h2:=ag.out;omega
  have b5:∀ b∈S3,w.heap.size<=b:=fun b hb=>VL (hgw1.trans ae).size (aw b hb);have aO:=ah.gu ar (fun b hb hm=>by simp at hm;rw[HPG.out] at a4;exact a4 (hm ▸ hb))
  have ax:pN P ⟨I,0,[],A3,c3,S3⟩ ⟨[],0,0,M⟩ [] (rz p i) w5 (P.g::([]++[gs])++[]):=
   ⟨I,0,[],P.g::([]++[gs]),⟨⟨I,0,[],F ⟨gs,0,I⟩,1,[gs],ai,rfl⟩,Has.nil _ _ _,aO,Has.nil _ _ _,(fun b hb=>by cases hb),(fun b hb=>⟨fun hm=>by
    simp only[Wo,VT,WB,Xy] at hm;rcases hm with h | h
    ·exact a4 (h ▸ hb)
    ·exact aa (h ▸ hb),gm⟩),(fun b hb=>by cases hb),(fun b hb=>by cases hb)⟩,rfl⟩
  have bi:∀ b∈(P.g::([]++[gs])++[]),w.heap.size<=b:=fun b hb=>by
   have h1:=(hgw1.trans ae).size;have h2:=ak.size;have h3:=ag.out;have h4:=hgw1.size;simp only[Wo,Wu,VT,WB,Xy] at hb;rcases hb with h | h
   ·rw[h,HPG.out];omega
   ·omega
  have a2:=ai.box;rw[HPG.out] at a2;obtain⟨y0,y1,y2,y3,y4,y5,y6,y7,y8,y9,b9,aE,ba,yf,yl⟩:=pH a2;obtain⟨r0,r1,r2,r3,r4,r5,rf,rl⟩:=oU a1;have aC:P.E.args=((zD p i).length:Int):=by rw[HP.out];rfl
  have aD:P.E.gT=kZ b f:=by rw[HP.out];rfl
  rw[aC] at y8;rw[aD] at y5;rw[Wi] at aE;have al:gs≠g:=fun e=>by have h:=ag.out;omega
  have aS:(zD p (i:Int)).length<=4:=by rw[<-b8];exact aR
  have aZ:=aJ.out;have bt:Vl Z (((zu p i).length:Int)-((zD p i).length:Int))=((zu p i).length:Int)-((zD p i).length:Int):=iw;have HPE:=fk (show P.E=qW p b f fO i by rw[HP.out]);clear aC aD z0 z1 z2 z3 z4 z5 z6 z7 z8 z9 aF aG aH zf zl ac a1 ah ai ar aq a2;go_region_held3 (fun w'=>Vg w' ⟨g,11,I⟩=F (J (F ⟨gs,0,I⟩) 1 1)/\Vg w' ⟨g,8,I⟩=F (C Z (zD p i).length)/\Vg w' ⟨gs,2,I⟩=F (J A3 (zu p i).length c3)) ((repeat' apply Vm) <;> ((repeat (first | with_reducible assumption | with_reducible refine zc ?_ | with_reducible refine Rh ?_ gv | with_reducible refine BL ?_ al));done)) (fail)
  all_goals go_upto_region 5 with(fail)
  have aj:=((ia.refl ax).num (m':=⟨[],0,((zu p i).length:Int)-((zD p i).length:Int),M⟩) (i:=7) (v:=C Z (((zu p i).length:Int)-((zD p i).length:Int))) rfl (fun _ _ _ _ _ _ _ _ _=>rfl)).fH ((fy.refl _).drew);rw[HPG.out] at aj;generalize ((w5.setCell _ _).drew)=w6 at aj |-;obtain⟨L6,aQ,_,_⟩:=aj;obtain⟨Av,cv,Sv,Lm,ab,aP⟩:=aQ;obtain⟨q0,q1,q2,q5,q6,q7,q8,q9,q12,qf,ql⟩:=ab.st.jl;rw[HPG.out] at q5 ql;rw[HPE.out] at q5;clear y0 y1 y2 y3 y4 y5 y6 y7 y8 y9 b9 aE ba yf yl r0 r1 r2 r3 r4 r5 rf rl q0 q1 q2 q6 q7 q8 q9 q12 qf ax;have b7:fQ fO:=⟨fh,fh⟩
  have aW:fQ (i:Int):=⟨fh,fh⟩
  have bg:fQ 13:=⟨fh,fh⟩
  have bh:fQ 15:=⟨fh,fh⟩
  have aL:fQ 0:=⟨fh,fh⟩
  have b6:(zv.sl 3).R w6 w6.heap.size [J I ([]:D Int).length 0] ([]:D Int):=(Has.nil zv 3 w6).read;have HM:=fk hM;have HS:=fk hS;have HE:=fk he;clear hM hS he;obtain⟨fb,a3⟩:∃ fb,kZ b f=fb:=⟨_,rfl⟩
  have ap:=fk a3;have aB:(qW p b f fO i).gT=fb:=a3;rw[aB] at q5;clear a3 aB
  have bs:Hid (zC P.E ⟨[],0,((zu p i).length:Int)-((zD p i).length:Int),M⟩ (if fb=H then 13 else 15) fO i []=(qJ p b f fO i).gR 0):=fk (by
   rw[HPE.out,<-ap.out]
   rfl)
  have hst2:Hid ((zC P.E ⟨[],0,((zu p i).length:Int)-((zD p i).length:Int),M⟩ (if fb=H then 13 else 15) fO i []).gR fO=qJ p b f fO i):=fk (by
   rw[HPE.out,<-ap.out]
   rfl)
  obtain⟨code,a0⟩:∃ code:Int,(if fb=H then 13 else 15)=code:=⟨_,rfl⟩
  rw[a0] at hst2;have aU:fQ code:=by rw[<-a0];split <;> exact⟨fh,fh⟩
  have ad:=zfL (code:=code) (arg:=fO) (line:=(i:Int)) (ft:=[]) (Ac:=I) (cc:=0) ab.st b6 gm gm aU b7 aW aL;rw[HPG.out] at ad;simp only[VZ] at ad;cases fb with
  | true=>
   obtain rfl:code=13:=a0.symm;go_upto_region 8 with(first | (go_at_call 203;refine ad.mono ?_;rintro e9 w7 ⟨rfl,hN7⟩));obtain⟨L7,hS7,_,_⟩:=ab.next hN7;obtain⟨q0,q1,q2,q5,q6,q7,q8,q9,q12,qf,ql⟩:=(show kj P _ _ w7 _ from(Xn (Xn (Xn (Xn hS7)))).1.st).jl;rw[HPG.out] at q9 qf ql;clear q0 q1 q2 q5 q6 q7 q8 q12;go_upto_region 9 with(fail);have hN8:=(ia.refl hS7).num (m':=(zC P.E ⟨[],0,((zu p i).length:Int)-((zD p i).length:Int),M⟩ 13 fO i []).gR fO) (i:=9) (v:=C Z fO) rfl (fun _ _ _ _ _ _ _ _ _=>rfl);exact ww
  | false=>
   obtain rfl:code=15:=a0.symm;go_upto_region 8 with(first | (go_at_call 203;refine ad.mono ?_;rintro e9 w7 ⟨rfl,hN7⟩));obtain⟨L7,hS7,_,_⟩:=ab.next hN7;obtain⟨q0,q1,q2,q5,q6,q7,q8,q9,q12,qf,ql⟩:=(show kj P _ _ w7 _ from(Xn (Xn (Xn (Xn hS7)))).1.st).jl;rw[HPG.out] at q9 qf ql;clear q0 q1 q2 q5 q6 q7 q8 q12;go_upto_region 9 with(fail);have hN8:=(ia.refl hS7).num (m':=(zC P.E ⟨[],0,((zu p i).length:Int)-((zD p i).length:Int),M⟩ 15 fO i []).gR fO) (i:=9) (v:=C Z fO) rfl (fun _ _ _ _ _ _ _ _ _=>rfl);exact ww
def KS (xs:D fX)(w:V)(r:Z9)(w':V):Prop:=∃ A c S,r=.returned (J A xs.length c)/\Has (qS.sl 227) w' [J A xs.length c] xs S/\(∀ b∈S,w.heap.size<=b)/\fy w w'
theorem O7 (hF:nK p):∀ y∈p.map zW,y.gD.length<=1099511627776/\y.Expr.length<=1099511627776:=by
 intro y hy;obtain⟨i,hi⟩:=XS hy;obtain⟨x,hx,rfl⟩:=vR hi;have ha:=hF.c.args i x hx;refine⟨by show x.gD.length<=_;omega,?_⟩
 have a0:x.Expr.length<=20/\(0<x.Expr.length->(tj x.Expr).length<=20):=by
  by_cases he:sF x.fC=H
  ·have h1:=(un (hF.line i x hx)).2.2.2
   unfold tx at h1;rw[Vs he] at h1;obtain⟨e,g1,g2,g3,g4⟩:=Cm h1;obtain⟨e',w1,w2,w3⟩:=e.jf g1;refine⟨g3,fun _=>?_⟩;rw[g4,<-w2,e'.ie];rw[g2,e.ie] at g3;omega
  ·have h1:=(un (hF.line i x hx)).2.2.2
   unfold tx at h1;rw[Vo he] at h1;simp only[VD] at h1;exact⟨fh,fun h=>fh⟩
 show (if 0<x.Expr.length then tj x.Expr else x.Expr).length<=_;split
 ·rename_i h
  have:=a0.2 h;omega
 ·omega
theorem wJ {g:Prop} (f:g:=by
  rintro e w6 ⟨A6,c6,S6,rfl,hH6,hS6,hg6⟩
  go_wp2_with(fail)
  exact Vr (v:=J A6 R2.1.length c6) (by simp[VF,results166,go_sem]) rfl (show KS _ w _ _ from by rw[HC.out];exact⟨A6,c6,S6,rfl,hH6.fH gF,fun b hb=>VL (hgT.trans ((fy.trans (b:=_) gF hg5).trans gF)).size (hS6 b hb),(hgT.trans (fy.trans (b:=_) gF hg5)).trans ((fy.trans (b:=_) gF hg6).trans gF)⟩)):g:=f
theorem zxX (hx:(zS.sl 99).R w w.heap.size [J A p.length c] p)(hs:∀ x∈p,x.gD.length<=1099511627776/\x.Expr.length<=1099511627776)(hp:zA p=H)(hb:kC b=H)(hf:f<(zn p).length) :
  VK prog 166 #[J A p.length c,C Z f,.agg #[C Z b.gW,C Z b.gN,X b.iO,X b.ic]] w (KS (zx p b f) w):=by
 have hF:=qC hp;have al:=hF.len;have ap:=hF.ov;have hl:p.length<=1099511627776:=fh;have aj:gE b.gN 0 3=H:=by unfold kC at hb;rw[Vt] at hb;exact hb.2
 have ao:¬ ((f:Int)<0):=fh;have an:¬ ((f:Int)≥((zn p).length:Int)):=fh;have ak:¬ (((zn p).length:Int)<=(f:Int)):=fh;have HP:=fk hp;have HB:=fk hb
 -- what compiling comes to at a program
 have a6:∀(q:D fB) (hq:lq q) (a5:f<(zn q).length) (ab:∀ x∈q,x.gD.length<=1099511627776/\x.Expr.length<=1099511627776),∃ R1 R2,lI q b f 0=R1/\lI q b f R1.2=R2/\
   (∀(W:V) (A:N VQ) (c:Nat),(zS.sl 99).R W W.heap.size [J A q.length c] q->VK prog 196 #[J A q.length c,C Z f,.agg #[C Z b.gW,C Z b.gN,X b.iO,X b.ic],C Z 0] W (Dz R1 W))/\
   (∀(W:V) (A:N VQ) (c:Nat),(zS.sl 99).R W W.heap.size [J A q.length c] q->VK prog 196 #[J A q.length c,C Z f,.agg #[C Z b.gW,C Z b.gN,X b.iO,X b.ic],C Z R1.2] W (Dz R2 W)):=by
  intro q hq a5 ab;obtain⟨_,_,_,h4,h5⟩:=zm (fO:=0) hq aj a5 ⟨fh,fh⟩;exact⟨_,_,rfl,rfl,fun W A c h=>zof h ab hq hb a5 ⟨fh,fh⟩,fun W A c h=>zof h ab hq hb a5 ⟨h4,fh⟩⟩
 obtain⟨bF,bI,ae,bS⟩:=b;cases ae with
 | false=>
  obtain⟨R1,R2,e1,e2,c1,c2⟩:=a6 p hF.c hf hs;have HC:Hid (zx p ⟨bF,bI,M,bS⟩ f=R2.1):=fk (by unfold zx;simp only;rw[Vo gm,e1,e2]);have C1:=fk c1;have C2:=fk c2;have BO:=fun w=>BA (b:=⟨bF,bI,M,bS⟩) (w:=w);have a7:=fk BO;clear e1 e2 c1 c2 a6 hp hb BO;go_enter func166,ntmps166;go_wp2_with(first | (go_at_call 102;refine(zaU (Ty.up _ hx gF) hl hs).mono ?_;rw[HP.out];rintro e w1 ⟨rfl,a2⟩;obtain⟨b0,b1,b2,b3,bf,bl⟩:=jF (zj (Vj w (U #[C Z bF,C Z bI,X M,X bS] 71)) a2)) | (go_at_call 104;refine(a7.out _).mono ?_;rw[HB.out];rintro e w2 ⟨rfl,a0⟩;have hgT:fy w w2:=(fy.trans (b:=_) gF a2).trans (fy.trans (b:=_) gF a0);have b0:=za a0 b0;have b1:=za a0 b1;have b2:=za a0 b2;have b3:=za a0 b3) | (go_at_call 106;refine(zb4 (Ty.up _ hx (hgT.trans gF)) hl).mono ?_;rintro e w3 ⟨A3,c3,S3,rfl,af,ah,a1⟩;have hgT:=hgT.trans (fy.trans (b:=_) gF a1);have b0:=za a1 b0;have b1:=za a1 b1;have b2:=za a1 b2;have b3:=za a1 b3));refine(C1.out _ _ _ (Ty.up _ hx (hgT.trans gF))).mono ?_;rintro e w5 ⟨A5,c5,S5,rfl,ag,ai,hg5⟩;have b0:=za hg5 b0;have b1:=za hg5 b1;have b2:=za hg5 b2;have b3:=za hg5 b3;go_wp2_with(fail);refine(C2.out _ _ _ (Ty.up _ (Ty.up _ hx (hgT.trans gF)) (fy.trans (b:=_) gF hg5))).mono ?_;exact wJ
 | true=>
  have a4:qE p=p.map zW:=by unfold qE;rw[Vs hp]
  have a8:=hF.fold;have a9:f<(zn (p.map zW)).length:=by rw[uO];exact hf
  have aa:=O7 hF;generalize p.map zW=q at a4 a8 a9 aa;obtain⟨R1,R2,e1,e2,c1,c2⟩:=a6 q a8 a9 aa;have HC:Hid (zx p ⟨bF,bI,H,bS⟩ f=R2.1):=fk (by unfold zx;simp only[Xe];rw[a4,e1,e2]);have ad:=fk a4;clear a4 a8 a9 aa;have C1:=fk c1;have C2:=fk c2;have BO:=fun w=>BA (b:=⟨bF,bI,H,bS⟩) (w:=w);have a7:=fk BO;clear e1 e2 c1 c2 a6 hp hb BO;go_enter func166,ntmps166;go_wp2_with(first | (go_at_call 102;refine(zaU (Ty.up _ hx gF) hl hs).mono ?_;rw[HP.out];rintro e w1 ⟨rfl,a2⟩;obtain⟨b0,b1,b2,b3,bf,bl⟩:=jF (zj (Vj w (U #[C Z bF,C Z bI,X H,X bS] 71)) a2)) | (go_at_call 104;refine(a7.out _).mono ?_;rw[HB.out];rintro e w2 ⟨rfl,a0⟩;have hgT:fy w w2:=(fy.trans (b:=_) gF a2).trans (fy.trans (b:=_) gF a0);have b0:=za a0 b0;have b1:=za a0 b1;have b2:=za a0 b2;have b3:=za a0 b3) | (go_at_call 106;refine(zb4 (Ty.up _ hx (hgT.trans gF)) hl).mono ?_;rintro e w3 ⟨A3,c3,S3,rfl,af,ah,a1⟩;have hgT:=hgT.trans (fy.trans (b:=_) gF a1);have b0:=za a1 b0;have b1:=za a1 b1;have b2:=za a1 b2;have b3:=za a1 b3) | (go_at_call 195;refine(zsF (Ty.up _ hx (hgT.trans gF)) hl hs).mono ?_;rw[ad.out];rintro e w4 ⟨A4,c4,S4,rfl,ac,am,a3⟩;have hgT:=hgT.trans (fy.trans (b:=_) gF a3);have b0:=za a3 b0;have b1:=za a3 b1;have b2:=za a3 b2;have b3:=za a3 b3));refine(C1.out _ _ _ (Ty.up _ ac.read gF)).mono ?_;rintro e w5 ⟨A5,c5,S5,rfl,ag,ai,hg5⟩;have b0:=za hg5 b0;have b1:=za hg5 b1;have b2:=za hg5 b2;have b3:=za hg5 b3;go_wp2_with(fail);refine(C2.out _ _ _ (Ty.up _ (Ty.up _ ac.read gF) (fy.trans (b:=_) gF hg5))).mono ?_;exact wJ
theorem zu8 (hf:f<=1000):VK prog 165 #[.agg #[C Z b.gW,C Z b.gN,X b.iO,X b.ic],C Z f,C Z image] w fun e w'=>e=.returned (X (nU b f image))/\fy w w':=by
 obtain⟨bF,bI,a0,bS⟩:=b;have hm:=Dc f fh;cases bS with
 | true=>
  have HI:Hid (nU ⟨bF,bI,a0,H⟩ f image=((f:Int) % 2 == image)):=fk (by unfold nU;simp only[Xe];cases h:decide ((f:Int) % 2=image) with
   | true=>rw[YF] at h;rw[h];simp
   | false=>rw[WA] at h;exact(Vw.2 h).symm)
  go_enter func165,ntmps165;go_wp2_with(fail);go_ret;exact⟨zp HI.out.symm,gG⟩
 | false=>
  have HI:Hid (nU ⟨bF,bI,a0,M⟩ f image=(image == 0)):=fk (by unfold nU;simp only[WX,Yn];cases h:decide (image=0) with
   | true=>rw[YF] at h;rw[h];rfl
   | false=>rw[WA] at h;exact(Vw.2 h).symm)
  go_enter func165,ntmps165;go_wp2_with(fail);go_ret;exact⟨zp HI.out.symm,gG⟩
def pM (lo:Nat)(W:V)(S:D Nat)(r:D Value)(x:gC):Prop:=∃ A0 c0 Sc,r = [C Z x.fN,C Z x.fE.Op.Code,C Z x.fE.Op.iz,C Z x.fE.fZ,X x.fE.fA,J A0 x.fE.fP.length c0,C Z x.fE.fT,X x.fE.fU]/\
 (zv.sl 3).O W [J A0 x.fE.fP.length c0] x.fE.fP Sc/\(∀ b∈Sc,b∉S/\lo<=b)/\fQ x.fN/\fQ x.fE.Op.Code/\fQ x.fE.Op.iz/\fQ x.fE.fZ/\fQ x.fE.fT
theorem pM.gu {x:gC} (h:pM lo W S r x)(ho:fG S W W')(hS:∀ b∈S',b∈S∨W.heap.size<=b):pM lo W' S' r x:=by
 obtain⟨A0,c0,Sc,h1,h2,h3,h4⟩:=h;have a0:=Ty.jQ _ h2;refine⟨A0,c0,Sc,h1,Ty.iA _ h2 (fun k hk=>ho.block k (a0 k hk) (h3 k hk).1),fun b hb=>⟨fun hm=>?_,(h3 b hb).2⟩,h4⟩;rcases hS b hm with h | h
 ·exact(h3 b hb).1 h
 ·have:=a0 b hb;omega
def iV (lo:Nat)(W:V)(S:D Nat)(rs:D (D Value))(xs:D gC):Prop:=rs.length=xs.length/\∀(i:Nat)(r:D Value)(x:gC),rs[i]?=F r->xs[i]?=F x->pM lo W S r x
theorem iV.nil (lo:Nat)(W:V)(S:D Nat):iV lo W S [] []:=⟨rfl,fun i r x h=>by simp at h⟩
theorem iV.gu {lo:Nat}{W W':V}{S S':D Nat}{rs:D (D Value)}{xs:D gC}(h:iV lo W S rs xs)(ho:fG S W W')(hS:∀ b∈S',b∈S∨W.heap.size<=b):iV lo W' S' rs xs:=⟨h.1,fun i r x h1 h2=>(h.2 i r x h1 h2).gu ho hS⟩
theorem iV.fH (h:iV lo W S rs xs)(hg:fy W W'):iV lo W' S rs xs:=h.gu (hg.only _) (fun _ hb=>.inl hb)
theorem iV.snoc {x:gC} (h:iV lo W S rs xs)(hr:pM lo W S r x):iV lo W S (rs++[r]) (xs++[x]):=by
 refine⟨by simp[h.1],fun i r' x' h1 h2=>?_⟩;by_cases hi:i<rs.length
 ·rw[Wh hi] at h1
  rw[Wh (by rw[<-h.1];exact hi)] at h2;exact h.2 i r' x' h1 h2
 ·have hl:=(Vh.1 h1).1
  simp only[Vk,VC,VZ] at hl;have a0:i=rs.length:=fh;subst a0;rw[VX (Vz _),Ws] at h1;rw[h.1,VX (Vz _),Ws] at h2;simp only[VU,VO] at h1 h2;subst h1;subst h2;exact hr
theorem iV.read {lo:Nat}{W:V}{S:D Nat}{rs:D (D Value)}{xs:D gC}{A:N VQ}{n c:Nat}(h:iV lo W S rs xs)(hH:Has ((pm 8).sl 229) W [J A n c] rs S)(hn:n=xs.length):(vW.sl 229).R W W.heap.size [J A xs.length c] xs:=by
 obtain⟨A',c',h1,h2,h3,h4,h5⟩:=hH.read;injection h1 with h1 _
 injection h1 with e1 e2 e3
 subst e1;subst e3;refine⟨A,c,rfl,by rw[<-h.1];exact h2,h3,h4,fun hp=>?_⟩;obtain⟨g,a3,hA,a1,a0⟩:=h5 (by rw[h.1];exact hp);refine⟨g,a3,hA,a1,fun i x hx=>?_⟩;have a2:=(Vh.1 hx).1;have hr:rs[i]?=F (rs[i]'(by rw[h.1];exact a2)):=Vq _;obtain⟨ec,k1,k2⟩:=a0 i _ hr;obtain⟨k1,_,_⟩:=k1;obtain⟨A0,c0,Sc,p1,p2,_,p3,p4,p5,p6,p7⟩:=h.2 i _ x hr hx;refine⟨ec,?_,k2⟩;rw[k1,p1];exact PM (x:=x) A0 c0 p3 p4 p5 p6 (Ty.read _ p2) p7
theorem iV.only {L:D Nat} (h:iV lo W S rs xs)(ho:fG L W W')(hL:∀ b∈L,b<lo):iV lo W' S rs xs:=by
 refine⟨h.1,fun i r x h1 h2=>?_⟩;obtain⟨A0,c0,Sc,k1,k2,k3,k4⟩:=h.2 i r x h1 h2;exact⟨A0,c0,Sc,k1,Ty.iA _ k2 (fun k hk=>ho.block k (Ty.jQ _ k2 k hk) (fun hm=>by have:=hL k hm;have:=(k3 k hk).2;omega)),k3,k4⟩
theorem PH (h:l[k]?=F x)(a:Int):zZ (l.drop k) a=a::zZ (l.drop (k+1)) (a+zK x.Op.Code):=by
 obtain⟨h1,rfl⟩:=Vh.1 h;rw[VB h1];rfl
theorem SK (h:l[k]?=F x)(a:Int):nX (l.drop k) a=nX (l.drop (k+1)) (a+zK x.Op.Code):=by
 obtain⟨h1,rfl⟩:=Vh.1 h;rw[VB h1];rfl
theorem O3 (h:l[k]?=F x):tr st (l.drop k) k=lY st k x::tr st (l.drop (k+1)) (k+1):=by
 obtain⟨h1,rfl⟩:=Vh.1 h;rw[VB h1];rfl
theorem Ih:∀(l:D fX)(a:Int),(zZ l a).length=l.length+1
 | [],_=>rfl
 | x::r,a=>by simp[zZ,Ih r]
theorem Jb:∀(l:D fX)(a:Int),∀ v∈zZ l a,a<=v/\v<=a+5*(l.length:Int)
 | [],a,v,h=>by simp only[zZ,Vi] at h;subst h;simp
 | x::r,a,v,h=>by
  simp only[zZ] at h;have ho:=CX x.Op.Code;rcases VT.1 h with rfl | h
  ·simp only[VC];omega
  ·have:=Jb r _ v h
   simp only[VC];omega
theorem iV.push {Y:V} {x:gC} (h:iV lo Y S rs xs)(hr:pM lo Y S r x)(hg:fy Y Wa)(hon:fG S Wa W')(hS:∀ b∈S',b∈S∨Wa.heap.size<=b):iV lo W' S' (rs++[r]) (xs++[x]):=((h.snoc hr).fH hg).gu hon hS
theorem G9 {b:V} (hO:fG S0 a b)(hS:∀ x∈S,x∈S0∨a.heap.size<=x)(hg:fy b Wa)(hon:fG S Wa W'):fG S0 a W':=hO.then ((hg.only S).trans hon) hS
theorem Ja {b:V} (hO:fG S0 a b)(hS:∀ x∈S,x∈S0∨a.heap.size<=x)(hg:fy b Wa)(hS':∀ x∈S',x∈S∨Wa.heap.size<=x):∀ x∈S',x∈S0∨a.heap.size<=x:=fun x hx=>(hS' x hx).elim (hS x) (fun h=>.inr (VL (VL hO.size hg.size) h))
theorem LZ (w:V)(B:Nat){v:Int}(h:fQ v):zv.R w B [C Z v] v:=⟨rfl,h.1,h.2⟩
theorem NH {ag:Nat} {sa s1:Int} (hj:x.Op.Code=10∨x.Op.Code=11)(ha:x.Op.iz=(ag:Int))(h0:st[k]?=F sk)(h1:st[ag]?=F sa)(h2:st[k+1]?=F s1):lY st k x=⟨sk,⟨⟨x.Op.Code,sa-s1⟩,x.fZ,x.fA,x.fP,x.fT,x.fU⟩⟩:=by
 unfold lY;rw[Vs hj,ha,Vy];simp only[VR,h0,h1,h2,WM]
theorem NG (hj:¬ (x.Op.Code=10∨x.Op.Code=11))(h0:st[k]?=F sk):lY st k x=⟨sk,⟨⟨x.Op.Code,x.Op.iz⟩,x.fZ,x.fA,x.fP,x.fT,x.fU⟩⟩:=by
 unfold lY;rw[Vo hj];simp only[VR,h0,WM]
theorem RV {xs:D Int} (h:Has (zv.sl e) W [J A n c] xs S)(h0:0<xs.length):∃ g,A=F ⟨g,0,I⟩/\g∈S/\g<W.heap.size/\∀(k:Nat)(v:Int),xs[k]?=F v->Vg W ⟨g,k,I⟩=F (C Z v)/\fQ v:=by
 obtain⟨v0,a3⟩:∃ v,xs[0]?=F v:=⟨_,Vq h0⟩
 obtain⟨g,_,_,rfl,a1,a2,_⟩:=sA h.1 h.2 a3;refine⟨g,rfl,a1,a2,fun k v hk=>?_⟩;obtain⟨g',el,a4,hA,_,_,_,_,_,hO,_,hc,_⟩:=sA h.1 h.2 hk;injection hA with hA
 injection hA with hA
 subst hA;obtain⟨rfl,b1,b2,_⟩:=hO;have a0:=hc 0 _ rfl;rw[show k*zv.size+0=k from by show k*1+0=k;omega] at a0;exact⟨a0,b1,b2⟩
theorem PB:(prog.info? 229).map (fun i=>(i.zero,i.size,i.bytes))=F (F (.agg #[C Z 0,C Z 0,C Z 0,C Z 0,X M,J I 0 0,C Z 0,X M]),8,80):=gU
theorem KQ:iZ prog 182 229 (pm 8) 80:=by
 obtain⟨i0,hi,a0,a1,a2⟩:=Xt PB;exact⟨underlying182,⟨i0,_,hi,a0,a1,a2,rfl⟩,gv⟩
def DG (xs:D gC)(w:V)(r:Z9)(w':V):Prop:=∃ A c rs S,r=.returned (J A xs.length c)/\Has ((pm 8).sl 229) w' [J A xs.length c] rs S/\iV w.heap.size w' S rs xs/\(∀ b∈S,w.heap.size<=b)/\fy w w'
theorem NJ {a:Int} (h:f<n)(hi:nU b f image=H):pe p b image (n-f) f a=jZ (zx p b f) a++pe p b image (n-(f+1)) (f+1) (nX (zx p b f) a):=by
 rw[show n-f=n-(f+1)+1 from fh];show (if _ then _ else _)=_;rw[Vs hi]
theorem O1 {a:Int} (h:f<n)(hi:nU b f image=M):pe p b image (n-f) f a=pe p b image (n-(f+1)) (f+1) a:=by
 rw[show n-f=n-(f+1)+1 from fh];show (if _ then _ else _)=_;rw[Vo (by rw[hi];simp)]
theorem Cf {g:Prop} (f:g:=by
  clear hj
  go_upto_region 22 with(fail)
  refine lO (fun w'=>Vg w' ⟨g14,1,I⟩=F (C Z (ag:Int))/\Vg w' ⟨gt,ag,I⟩=F (C Z sa)/\Vg w' ⟨gt,k+1,I⟩=F (C Z s1)) 14 gU (Vm (zc o1) (Vm (zc ta) (zc t1))) (fun hH=>?_)
  have hdr:fy Y Y.drew:=(fy.refl _).drew
  clear o1 ta t1
  generalize Y.drew=wx at hdr hH |-
  obtain⟨o1,ta,t1⟩:=id hH
  have ofx:∀ j,VE wx ⟨g14,j,I⟩=M:=fun j=>((hdr.only []).frozen ol gm j).trans (of j)
  have olx:g14<wx.heap.size:=Vn ol hdr.size
  refine .tk 0 [14] hH ?_
  refine .tk 1 [14] hH ?_
  refine .tk 2 [14] hH ?_
  refine .tk 3 [14] hH ?_
  refine .tk 4 [14] hH ?_
  refine .tk 5 [14] hH ?_
  refine .tk 6 [14] hH ?_
  refine .tk 7 [14] hH ?_
  refine .tk 8 [14] hH ?_
  refine .tk 9 [14] hH ?_
  refine .tk 10 [14] hH ?_
  refine .tk 11 [14] hH ?_
  refine .tk 12 [13,14] hH ?_
  refine .tk 13 [14] hH ?_
  refine fL.last gU rfl gU (fun K hK=>?_)
  go_simp
  refine hK.out _ _ ?_
  clear hK
  try simp only[lay]
  go_upto_region 23 with(fail)
  have eb2:=(ko (i:=1) (v:=C Z (sa-s1)) (cur':=#[C Z x.Op.Code,C Z (sa-s1),C Z x.fZ,X x.fA,J A20 x.fP.length c20,C Z x.fT,X x.fU]) (zj eb hdr) rfl)
  have hgY:fy wr (wx.setCell ⟨g14,1,I⟩ (C Z (sa-s1))):=(hgYa.trans hdr).setRow (p:=⟨g14,1,I⟩) (Yl HG14.out) _
  generalize (wx.setCell _ _)=Y2 at eb2 hgY |-
  obtain⟨o0,o1,o2,o3,o4,o5,o6,of,ol⟩:=jb eb2
  have tk:=za hgY tk
  have hgtY:gt<Y2.heap.size:=Vn hgtw hgY.size
  have hHY:=hR7.out.fH hgY
  have hPY:=hPR.out.fH hgY
  go_region_held3 (fun w'=>Vg w' ⟨g14,0,I⟩=F (C Z x.Op.Code)/\Vg w' ⟨g14,1,I⟩=F (C Z (sa-s1))/\Vg w' ⟨g14,2,I⟩=F (C Z x.fZ)/\Vg w' ⟨g14,3,I⟩=F (X x.fA)/\Vg w' ⟨g14,4,I⟩=F (J A20 x.fP.length c20)/\Vg w' ⟨g14,5,I⟩=F (C Z x.fT)/\Vg w' ⟨g14,6,I⟩=F (X x.fU)/\Vg w' ⟨gt,k,I⟩=F (C Z sk)) ((repeat' apply Vm) <;> ((repeat (first | with_reducible assumption | with_reducible refine zd ?_ _ _ | with_reducible refine zq ?_ _ | with_reducible refine zc ?_ | with_reducible refine ow ?_ _));done)) (first | (refine sv (L:=rs.length+1) rfl (.tmp 104) (.tmp 111) KQ (Fq 8) (hHY.fH gF) (W1:=w) (B:=0) (ec:=[C Z sk,C Z x.Op.Code,C Z (sa-s1),C Z x.fZ,X x.fA,J A20 x.fP.length c20,C Z x.fT,X x.fU]) (y:=[C Z sk,C Z x.Op.Code,C Z (sa-s1),C Z x.fZ,X x.fA,J A20 x.fP.length c20,C Z x.fT,X x.fU]) ⟨rfl,rfl,by intro u hu;simp only[VT,WB,Xy] at hu;rcases hu with rfl | rfl | rfl | rfl | rfl | rfl | rfl | rfl <;> rfl⟩ rfl rfl rfl (by intro j u hu;simpa[go_sem] using hu) rfl fh fh ?_;intro A8 c8 W8 S8 hon hH8 hS8;have o0:=(hon.cell (g:=g14) (Vn ol (fy.size gF)) hg14S _).trans (za gF o0);have o1:=(hon.cell (g:=g14) (Vn ol (fy.size gF)) hg14S _).trans (za gF o1);have o2:=(hon.cell (g:=g14) (Vn ol (fy.size gF)) hg14S _).trans (za gF o2);have o3:=(hon.cell (g:=g14) (Vn ol (fy.size gF)) hg14S _).trans (za gF o3);have o4:=(hon.cell (g:=g14) (Vn ol (fy.size gF)) hg14S _).trans (za gF o4);have o5:=(hon.cell (g:=g14) (Vn ol (fy.size gF)) hg14S _).trans (za gF o5);have o6:=(hon.cell (g:=g14) (Vn ol (fy.size gF)) hg14S _).trans (za gF o6);have tk:=(hon.cell (g:=gt) (Vn hgtY (fy.size gF)) hgtS _).trans (za gF tk)))
  all_goals go_wp2_with(fail)
  all_goals go_roundw
  case measure=>exact iC
  case rel=>
   have hrow:pM w.heap.size Y2 S7 [C Z sk,C Z x.Op.Code,C Z (sa-s1),C Z x.fZ,X x.fA,J A20 x.fP.length c20,C Z x.fT,X x.fU] (lY ST k x):=by
    rw[hPL.out]
    exact⟨A20,c20,Sc,rfl,Ty.jG _ hchO hgY,fun b hb=>hScS b hb,hskI,hxcI,hvI,hxlI,hxdI⟩
   exact⟨k+1,rs++[[C Z sk,C Z x.Op.Code,C Z (sa-s1),C Z x.fZ,X x.fA,J A20 x.fP.length c20,C Z x.fT,X x.fU]],acc++[lY ST k x],A8,c8,S8,by rw[Vk];rfl,io,fh,fk (G9 hO7.out hS7.out (fy.trans hgY gF) hon),fk (Ja hO7.out hS7.out (fy.trans hgY gF) hS8),fk (by rw[Vk];exact hH8),fk (iV.push hPY hrow gF hon hS8),fk (by rw[<-hA4.out,HAT.out,VM];rfl),by rw[Vk,Wi];omega⟩):g:=f
theorem wF {g:Prop} (f:g:=by
  go_enter func124,ntmps124
  go_wp2_with(first | (go_at_call 102;refine(zaU (Ty.up _ hx gF) hll hs).mono ?_;rw[HPB.out];rintro e w1 ⟨rfl,hg1⟩;obtain⟨b0,b1,b2,b3,bf,bl⟩:=jF (zj (Vj w (U #[C Z bF,C Z bI,X bFo,X bS] 71)) (fy.trans (b:=_) gF hg1))) | (go_at_call 104;refine(HBO.out _).mono ?_;rw[HBB.out];rintro e w2 ⟨rfl,hg2⟩) | (go_at_call 43;refine(iU _ _ _ _).mono ?_;rw[HIB.out];rintro e w3 ⟨rfl,rfl⟩))
  exact Vr (v:=J (F ⟨w.heap.size+1,0,I⟩) 0 0) (by simp[VF,results124,go_sem]) rfl (show DG _ w _ _ from by rw[HE.out];exact⟨_,0,[],[w.heap.size+1],rfl,Has.iK (pm 8) (g:=w.heap.size+1) (zj (EOUT.out) (hg1.trans hg2)),iV.nil _ _ _,fun b hb=>by simp only[Vi] at hb;omega,(fy.trans (b:=_) gF (hg1.trans hg2))⟩)):g:=f
theorem zm5 (hx:(zS.sl 99).R w w.heap.size [J A p.length c] p)(hll:p.length<=1099511627776)(hs:∀ x∈p,x.gD.length<=1099511627776/\x.Expr.length<=1099511627776) :
  VK prog 124 #[J A p.length c,.agg #[C Z b.gW,C Z b.gN,X b.iO,X b.ic],C Z image] w (DG (lP p b image) w):=by
 obtain⟨bF,bI,bFo,bS⟩:=b;have BO:=fun w=>BA (b:=⟨bF,bI,bFo,bS⟩) (w:=w);have HBO:=fk BO;clear BO;have EOUT:Hid (((w.alloc (U #[C Z bF,C Z bI,X bFo,X bS] 71)).alloc (U #[] 229)).heap[w.heap.size+1]?=F (U #[] 229 (0,0))):=fk (by have h:=Vj (w.alloc (U #[C Z bF,C Z bI,X bFo,X bS] 71)) (U #[] 229);rw[VH] at h;exact h);rcases Wm (zA p) with a6 | a6
 rotate_left
 ·have HE:Hid (lP p ⟨bF,bI,bFo,bS⟩ image = []):=fk (by unfold lP;rw[Vo (fun h=>by rw[a6] at h;cases h.1)])
  have HPB:=fk a6;have HBB:=fk (rfl:kC ⟨bF,bI,bFo,bS⟩=kC ⟨bF,bI,bFo,bS⟩);have HIB:=fk (rfl:gE image 0 1=gE image 0 1);clear a6;go_enter func124,ntmps124;go_wp2_with(first | (go_at_call 102;refine(zaU (Ty.up _ hx gF) hll hs).mono ?_;rw[HPB.out];rintro e w1 ⟨rfl,hg1⟩;obtain⟨b0,b1,b2,b3,bf,bl⟩:=jF (zj (Vj w (U #[C Z bF,C Z bI,X bFo,X bS] 71)) (fy.trans (b:=_) gF hg1))) | (go_at_call 104;refine(HBO.out _).mono ?_;rw[HBB.out];rintro e w2 ⟨rfl,hg2⟩) | (go_at_call 43;refine(iU _ _ _ _).mono ?_;rw[HIB.out];rintro e w3 ⟨rfl,rfl⟩));exact Vr (v:=J (F ⟨w.heap.size+1,0,I⟩) 0 0) (by simp[VF,results124,go_sem]) rfl (show DG _ w _ _ from by rw[HE.out];exact⟨_,0,[],[w.heap.size+1],rfl,Has.iK (pm 8) (g:=w.heap.size+1) (zj (EOUT.out) hg1),iV.nil _ _ _,fun b hb=>by simp only[Vi] at hb;omega,(fy.trans (b:=_) gF hg1)⟩)
 rcases Wm (kC ⟨bF,bI,bFo,bS⟩) with af | af
 rotate_left
 ·have HE:Hid (lP p ⟨bF,bI,bFo,bS⟩ image = []):=fk (by unfold lP;rw[Vo (fun h=>by rw[af] at h;cases h.2.1)])
  have HPB:=fk a6;have HBB:=fk af;have HIB:=fk (rfl:gE image 0 1=gE image 0 1);clear a6 af;exact wF
 rcases Wm (gE image 0 1) with ad | ad
 rotate_left
 ·have HE:Hid (lP p ⟨bF,bI,bFo,bS⟩ image = []):=fk (by unfold lP;rw[Vo (fun h=>by rw[ad] at h;cases h.2.2)])
  have HPB:=fk a6;have HBB:=fk af;have HIB:=fk ad;clear a6 af ad;exact wF
 have HE:Hid (lP p ⟨bF,bI,bFo,bS⟩ image=pe p ⟨bF,bI,bFo,bS⟩ image ((zn p).length-0) 0 0):=fk (by unfold lP;rw[Vs ⟨a6,af,ad⟩];rfl);have HPB:=fk a6;have HBB:=fk af;have HIB:=fk ad;have cq:=(qC a6).ov;clear a6 af ad;go_enter func124,ntmps124;go_wp2_with(first | (go_at_call 102;refine(zaU (Ty.up _ hx gF) hll hs).mono ?_;rw[HPB.out];rintro e w1 ⟨rfl,hg1⟩;obtain⟨b0,b1,b2,b3,bf,bl⟩:=jF (zj (Vj w (U #[C Z bF,C Z bI,X bFo,X bS] 71)) (fy.trans (b:=_) gF hg1))) | (go_at_call 104;refine(HBO.out _).mono ?_;rw[HBB.out];rintro e w2 ⟨rfl,hg2⟩) | (go_at_call 43;refine(iU _ _ _ _).mono ?_;rw[HIB.out];rintro e w3 ⟨rfl,rfl⟩));have bv:fy (w.alloc (U #[C Z bF,C Z bI,X bFo,X bS] 71)) w2:=(fy.trans (b:=_) gF hg1).trans hg2;have bH:=fk (zj (Vj w (U #[C Z bF,C Z bI,X bFo,X bS] 71)) bv);have bd:fy w w2:=fy.trans (b:=_) gF bv;have br:Has ((pm 8).sl 229) w2 [J (F ⟨w.heap.size+1,0,I⟩) 0 0] [] [w.heap.size+1]:=Has.iK (pm 8) (zj EOUT.out (hg1.trans hg2));have bJ:=fk br;clear br b0 b1 b2 b3 bf bl;go_loopw [7,8,9] (fun z7 z8 z9 wr=>∃(f:Nat) (a:Int) (rs:D (D Value)) (acc:D gC) (A7:N VQ) (c7:Nat) (S7:D Nat),z7=J A7 rs.length c7/\z8=C Z a/\z9=C Z f/\f<=(zn p).length/\0<=a/\a<=12000*(f:Int)/\rs.length<=2400*f/\Hid (fy w wr)/\Hid (wr.heap[w.heap.size]?=F (U #[C Z bF,C Z bI,X bFo,X bS] 71 (0,0)))/\Hid (∀ b∈S7,w.heap.size<b)/\Hid (Has ((pm 8).sl 229) wr [J A7 rs.length c7] rs S7)/\Hid (iV w.heap.size wr S7 rs acc)/\Hid (acc++pe p ⟨bF,bI,bFo,bS⟩ image ((zn p).length-f) f a=lP p ⟨bF,bI,bFo,bS⟩ image)) (fun _ _ z9 _=>(zn p).length-(Wj z9).toNat)
 case atStart=>exact⟨0,0,[],[],_,0,_,rfl,rfl,rfl,Vu _,Xv _,fh,Vu _,fk bd,bH,fk (fun b hb=>by simp only[Vi] at hb;omega),bJ,fk (iV.nil _ _ _),fk HE.out.symm⟩
 case round=>
 obtain⟨f,a,aR,a7,aL,aO,ak,rfl,rfl,rfl,hf,bT,cl,c2,a8,ap,aA,aB,ar,b4⟩:=hrel;obtain⟨b0,b1,b2,b3,bf,bl⟩:=jF ap.out;by_cases hlt:f<(zn p).length
 ·have bW:(f:Int)<((zn p).length:Int):=fh
  have cv:Vl Z ((f:Int)+1)=(f:Int)+1:=iw;have bD:=fun w' (hg:fy wr w')=>zb4 (Ty.up _ hx (a8.out.trans hg)) hll;obtain⟨ib,ad⟩:∃ ib,nU ⟨bF,bI,bFo,bS⟩ f image=ib:=⟨_,rfl⟩
  have bn:=fun w'=>zu8 (b:=⟨bF,bI,bFo,bS⟩) (f:=f) (image:=image) (w:=w') fh;have bk:=fk bn;have aN:=fk ad;clear bn ad;cases ib with
  | false=>
   have HAT:=fk (O1 (p:=p) (a:=a) hlt aN.out);go_wp2_with(first | (go_at_call 106;refine(zb4 (Ty.up _ hx (a8.out.trans gF)) hll).mono ?_;rintro e w5 ⟨A5,c5,S5,rfl,b6,b7,a2⟩;have b0:=za a2 b0;have b1:=za a2 b1;have b2:=za a2 b2;have b3:=za a2 b3) | (go_at_call 165;refine(bk.out _).mono ?_;rw[aN.out];rintro e w6 ⟨rfl,a5⟩));go_roundw;exact⟨f+1,a,aR,a7,aL,aO,ak,rfl,rfl,io,fh,bT,fh,fh,fk (a8.out.trans (a2.trans a5)),fk (zj ap.out (a2.trans a5)),aA,fk (aB.out.fH (a2.trans a5)),fk (ar.out.fH (a2.trans a5)),fk (by rw[<-b4.out,HAT.out])⟩;exact iC
  | true=>
   have au:=fk (NJ (p:=p) (a:=a) hlt aN.out);obtain⟨am,c0,c1⟩:=En HPB.out HBB.out hlt;have aT:=fun(W:V) (h:(zS.sl 99).R W W.heap.size [J A p.length c] p)=>zxX (w:=W) (A:=A) (c:=c) h hs HPB.out HBB.out hlt;generalize zx p ⟨bF,bI,bFo,bS⟩ f=iM at au am c0 c1 aT;have bE:=fk aT;have aW:=fk am;clear aT am;go_wp2_with(first | (go_at_call 106;refine(zb4 (Ty.up _ hx (a8.out.trans gF)) hll).mono ?_;rintro e w5 ⟨A5,c5,S5,rfl,b6,b7,a2⟩;have b0:=za a2 b0;have b1:=za a2 b1;have b2:=za a2 b2;have b3:=za a2 b3) | (go_at_call 165;refine(bk.out _).mono ?_;rw[aN.out];rintro e w6 ⟨rfl,a5⟩;have b0:=za a5 b0;have b1:=za a5 b1;have b2:=za a5 b2;have b3:=za a5 b3) | (go_at_call 166;refine(bE.out _ (Ty.up _ hx (a8.out.trans (a2.trans (a5.trans gF))))).mono ?_;rintro e w7 ⟨ch,aZ,bM,rfl,ay,aC,bu⟩));have aF:fy wr w7:=(a2.trans a5).trans (fy.trans (b:=_) gF bu);have aH:∀ b∈bM,wr.heap.size<=b:=fun b hb=>VL (a2.trans a5).size (aC b hb);have a3:=fk aF;have av:=fk ay;have ae:=fk aH;obtain⟨wz,bz⟩:∃ z,wr=z:=⟨_,rfl⟩
   rw[bz] at a8 ap aB ar a3 ae;clear b0 b1 b2 b3 bf bl a2 a5 bu b7 b6 ay aC aF aH bD bz;go_loopw [8,11,12] (fun z8 z11 z12 wr=>∃(k:Nat) (a1:Int) (st:D Int) (aS:N VQ) (ax:Nat) (aY:D Nat),z8=C Z a1/\z11=J aS k ax/\z12=C Z k/\k<=iM.length/\a<=a1/\a1<=a+5*(k:Int)/\Hid (st.length=k)/\Hid (fy w7 wr)/\Hid (Has (zv.sl 3) wr [J aS k ax] st aY)/\Hid (∀ b∈aY,w7.heap.size<=b)/\Hid (st++zZ (iM.drop k) a1=zZ iM a)/\Hid (nX (iM.drop k) a1=nX iM a)) (fun _ _ z12 _=>iM.length-(Wj z12).toNat)
   case atStart=>exact⟨0,a,[],_,0,[w7.heap.size],rfl,rfl,rfl,Vu _,Xv _,fh,fk rfl,fk gF,fk (Has.iK zv (zj (Vj w7 _) gF)),fk (fun b hb=>by simp only[Vi] at hb;omega),fk rfl,fk rfl⟩
   case round=>
   obtain⟨k,a1,st,aS,ax,aY,rfl,rfl,rfl,hk,cn,cm,ca,aq,bp,aD,bt,bo⟩:=hrel;by_cases hkl:k<iM.length
   ·have be:(k:Int)<(iM.length:Int):=fh
    have cc:Vl Z ((k:Int)+1)=(k:Int)+1:=iw;obtain⟨gi,oi,x,A20,c20,rfl,an,aj,y0,_⟩:=Ux av.out.read hkl;have y0:=za aq.out y0;have cr:=CX x.Op.Code;have cu:Vl Z (a1+zK x.Op.Code)=a1+zK x.Op.Code:=iw;have b9:fQ a1:=⟨fh,fh⟩
    have bL:=fk (PH aj a1);have bG:=fk (SK aj a1);clear aj;go_wp2_with(first | (at_builtin;refine zG (L:=k+1) rfl (.tmp 53) (.tmp 55) me zI (bp.out.fH gF) (W1:=w) (B:=0) (ec:=[C Z a1]) (y:=a1) (LZ _ _ b9) rfl rfl rfl (by intro j u hu;simpa[go_sem] using hu) rfl fh fh ?_;intro A8 c8 W8 S8 hon hH8 hS8;have y0:=(hon.cell (g:=gi) (Vn an (fy.trans aq.out gF).size) (fun hm=>by have h:=aD.out gi hm;omega) _).trans (za gF y0)) | (go_at_call 167;refine(zgV _ _).mono ?_;rintro e w9 ⟨rfl,rfl⟩));go_roundw;exact⟨k+1,a1+zK x.Op.Code,st++[a1],A8,c8,S8,rfl,rfl,io,fh,fh,fh,fk (by rw[Vk,ca.out];rfl),fk (hon.fH (aq.out.trans gF) aD.out),fk hH8,fk (fun b hb=>(hS8 b hb).elim (aD.out b) (fun h=>VL (fy.size (fy.trans aq.out gF)) h)),fk (by rw[<-bt.out,bL.out,VM];rfl),fk (by rw[<-bo.out,bG.out])⟩;exact iC
   obtain rfl:k=iM.length:=fh;have be:¬ ((iM.length:Int)<(iM.length:Int)):=fh;have b9:fQ a1:=⟨fh,fh⟩
   have aX:Hid (st++[a1]=zZ iM a):=fk (by rw[<-bt.out,VW];rfl);have aV:Hid (a1=nX iM a):=fk (by rw[<-bo.out,VW];rfl);obtain⟨ST,a9⟩:∃ ST,zZ iM a=ST:=⟨_,rfl⟩
   have aw:Hid (ST.length=iM.length+1):=fk (by rw[<-a9];exact Ih _ _);have bm:Hid (∀ v∈ST,a<=v/\v<=a+5*(iM.length:Int)):=fk (by rw[<-a9];exact Jb _ _);have bK:Hid (jZ iM a=tr ST iM 0):=fk (by rw[<-a9];rfl);rw[a9] at aX;clear a9;go_wp2_with(first | (at_builtin;refine zG (L:=iM.length+1) rfl (.tmp 66) (.tmp 68) me zI (bp.out.fH gF) (W1:=w) (B:=0) (ec:=[C Z a1]) (y:=a1) (LZ _ _ b9) rfl rfl rfl (by intro j u hu;simpa[go_sem] using hu) rfl fh fh ?_;intro A9 c9 w9 S9 aI az bs));have aE:fy w7 w9:=aI.fH (fy.trans aq.out gF) aD.out;have bR:(zv.sl 3).R w9 w9.heap.size [J A9 ST.length c9] ST:=by rw[aw.out,<-aX.out];exact az.read
   have bg:∀ b∈S9,w7.heap.size<=b:=fun b hb=>(bs b hb).elim (aD.out b) (fun h=>VL (fy.size (fy.trans aq.out gF)) h);rw[aX.out] at az;have aM:=fk aE;have ci:=fk az;have cj:=fk bg;have aG:=fk (av.out.fH aE);have bQ:=fk (aB.out.fH (a3.out.trans aE));have bP:=fk (ar.out.fH (a3.out.trans aE));obtain⟨gt,bN,al,ao,ab⟩:=RV az (by rw[aw.out];omega);subst bN;have aU:=fk ab;have bx:=bg gt al;clear az bg aI bs aE bR ab al;go_loopw [7,13] (fun z7 z13 wr=>∃(k:Nat) (rs:D (D Value)) (acc:D gC) (A7:N VQ) (c7:Nat) (S7:D Nat),z7=J A7 rs.length c7/\z13=C Z k/\k<=iM.length/\Hid (fG ak w9 wr)/\Hid (∀ b∈S7,b∈ak∨w9.heap.size<=b)/\Hid (Has ((pm 8).sl 229) wr [J A7 rs.length c7] rs S7)/\Hid (iV w.heap.size wr S7 rs acc)/\Hid (acc++tr ST (iM.drop k) k=a7++jZ iM a)/\rs.length<=2400*f+k) (fun _ z13 _=>iM.length-(Wj z13).toNat)
   case atStart=>exact⟨0,aR,a7,aL,aO,ak,rfl,rfl,Vu _,fk (fG.refl _ _),fk (fun b hb=>.inl hb),bQ,bP,fk (by rw[bK.out];rfl),fh⟩
   case round=>
   obtain⟨k,rs,acc,A7,c7,S7,rfl,rfl,hk,hO7,hS7,hR7,hPR,hA4,cs⟩:=hrel;by_cases hkl:k<iM.length
   ·have be:(k:Int)<(iM.length:Int):=fh
    have cc:Vl Z ((k:Int)+1)=(k:Int)+1:=iw;have aj:iM[k]?=F iM[k]:=Vq hkl;generalize iM[k]=x at aj;obtain⟨gi,ec,Sc,b5,bc,an,_,aK,_,hO,_,aa,_⟩:=sA aG.out.1 aG.out.2 aj;obtain⟨A20,c20,ck,rfl,b8,hxcI,bi,hxlI,ac,hxdI⟩:=Lz hO;subst b8;subst b5;have bj:=aB.out.lt;have cg:=a3.out.size;have ce:=aM.out.size;have cf:=hO7.out.size;have bX:=ae.out gi bc;have bb:gi∉ak:=fun hm=>by have:=bj gi hm;omega
    have ai:gt∉ak:=fun hm=>by have:=bj gt hm;omega
    have hgtw:gt<wr.heap.size:=fh;have bh:qS.size=7:=rfl;rw[bh] at aa;have a0:=fun j u (hu:[C Z x.Op.Code,C Z x.Op.iz,C Z x.fZ,X x.fA,J A20 x.fP.length c20,C Z x.fT,X x.fU][j]?=F u)=>(hO7.out.cell an bb _).trans (aa j u hu);have y0:Vg wr ⟨gi,k*7,I⟩=F (C Z x.Op.Code):=a0 0 _ rfl;have y1:Vg wr ⟨gi,k*7+1,I⟩=F (C Z x.Op.iz):=a0 1 _ rfl;have y2:Vg wr ⟨gi,k*7+2,I⟩=F (C Z x.fZ):=a0 2 _ rfl;have y3:Vg wr ⟨gi,k*7+3,I⟩=F (X x.fA):=a0 3 _ rfl;have y4:Vg wr ⟨gi,k*7+4,I⟩=F (J A20 x.fP.length c20):=a0 4 _ rfl;have y5:Vg wr ⟨gi,k*7+5,I⟩=F (C Z x.fT):=a0 5 _ rfl;have y6:Vg wr ⟨gi,k*7+6,I⟩=F (X x.fU):=a0 6 _ rfl;have ah:∀ b∈Sc,b∉ak/\b<w9.heap.size:=fun b hb=>⟨fun hm=>by have h1:=bj b hm;have h2:=ae.out b (aK b hb);omega,Ty.jQ _ ac b hb⟩;have hchO:(zv.sl 3).O wr [J A20 x.fP.length c20] x.fP Sc:=Ty.iA _ ac (fun b hb=>hO7.out.block b (ah b hb).2 (ah b hb).1);have hScS:∀ b∈Sc,b∉S7/\w.heap.size<=b:=fun b hb=>⟨fun hm=>(hS7.out b hm).elim (ah b hb).1 (fun h=>by have:=(ah b hb).2;omega),by have h1:=ae.out b (aK b hb);have h2:=a8.out.size;omega⟩;have hgtS:gt∉S7:=fun hm=>(hS7.out gt hm).elim ai (fun h=>fh);obtain⟨sk,aJ⟩:∃ v,ST[k]?=F v:=⟨_,Vq (by rw[aw.out];omega)⟩
    obtain⟨bC,hskI⟩:=aU.out k sk aJ;have tk:=(hO7.out.cell ao ai k).trans bC;have c6:(k:Int)<(iM.length:Int)+1:=fh;have bq:=aW.out k x aj;have HAT:=fk (O3 (st:=ST) aj);have bw:gi<wr.heap.size:=fh;clear a0 aa hO ac aj bC;by_cases hj:x.Op.Code=10∨x.Op.Code=11
    ·obtain⟨ag,ba⟩:∃ ag:Nat,x.Op.iz=(ag:Int):=⟨x.Op.iz.toNat,by have:=bq.jump hj;omega⟩
     have bV:ag<=iM.length:=by have:=bq.jump hj;omega
     obtain⟨sa,aQ⟩:∃ v,ST[ag]?=F v:=⟨_,Vq (by rw[aw.out];omega)⟩
     obtain⟨s1,aP⟩:∃ v,ST[k+1]?=F v:=⟨_,Vq (by rw[aw.out];omega)⟩
     have hPL:=fk (NH hj ba aJ aQ aP);obtain⟨bB,c4⟩:=aU.out ag sa aQ;obtain⟨bA,c3⟩:=aU.out (k+1) s1 aP;have ta:=(hO7.out.cell ao ai ag).trans bB;have t1:=(hO7.out.cell ao ai (k+1)).trans bA;have cp:=bm.out sa (Vx aQ);have co:=bm.out s1 (Vx aP);have cw:Vl Z (sa-s1)=sa-s1:=iw;have hvI:fQ (sa-s1):=⟨fh,fh⟩
     have bU:(ag:Int)<(iM.length:Int)+1:=fh;have bZ:(k:Int)+1<(iM.length:Int)+1:=fh;have ct:((k:Int)+1).toNat=k+1:=fh;have bY:(0:Int)<=(k:Int)+1:=fh;rw[ba] at y1;have HJ:=fk hj;clear hj ba bB bA aJ aQ aP;go_upto_region 21 with(fail);have eb:(wr.alloc (U #[C Z x.Op.Code,C Z (ag:Int),C Z x.fZ,X x.fA,J A20 x.fP.length c20,C Z x.fT,X x.fU] 227)).heap[wr.heap.size]?=F (U #[C Z x.Op.Code,C Z (ag:Int),C Z x.fZ,X x.fA,J A20 x.fP.length c20,C Z x.fT,X x.fU] 227 (0,0)):=Vj _ _;have hgYa:fy wr (wr.alloc (U #[C Z x.Op.Code,C Z (ag:Int),C Z x.fZ,X x.fA,J A20 x.fP.length c20,C Z x.fT,X x.fU] 227)):=(fy.refl _).alloc _;obtain⟨g14,a4⟩:∃ g,wr.heap.size=g:=⟨_,rfl⟩
     rw[a4] at eb |-;have HG14:=fk a4;have hg14S:g14∉S7:=fun hm=>by have h:=hR7.out.lt g14 hm;omega
     clear a4;generalize (wr.alloc _)=Y at eb hgYa |-;obtain⟨o0,o1,o2,o3,o4,o5,o6,of,ol⟩:=jb eb;have ta:=za hgYa ta;have t1:=za hgYa t1;rcases HJ.out with hj | hj
     ·have aZ:(x.Op.Code == 10)=H:=V4.2 hj
      exact Cf
     ·have aZ:(x.Op.Code == 10)=M:=Vw.2 fh
      have ax:(x.Op.Code == 11)=H:=V4.2 hj;exact Cf
    ·have aZ:(x.Op.Code == 10)=M:=Vw.2 (fun h=>hj (.inl h))
     have ax:(x.Op.Code == 11)=M:=Vw.2 (fun h=>hj (.inr h));have hPL:=fk (NG hj aJ);clear hj aJ;go_upto_region 23 with(fail);have eb2:(wr.alloc (U #[C Z x.Op.Code,C Z x.Op.iz,C Z x.fZ,X x.fA,J A20 x.fP.length c20,C Z x.fT,X x.fU] 227)).heap[wr.heap.size]?=F (U #[C Z x.Op.Code,C Z x.Op.iz,C Z x.fZ,X x.fA,J A20 x.fP.length c20,C Z x.fT,X x.fU] 227 (0,0)):=Vj _ _;have hgY:fy wr (wr.alloc (U #[C Z x.Op.Code,C Z x.Op.iz,C Z x.fZ,X x.fA,J A20 x.fP.length c20,C Z x.fT,X x.fU] 227)):=(fy.refl _).alloc _;obtain⟨g14,a4⟩:∃ g,wr.heap.size=g:=⟨_,rfl⟩
     rw[a4] at eb2 |-;have HG14:=fk a4;have hg14S:g14∉S7:=fun hm=>by have h:=hR7.out.lt g14 hm;omega
     clear a4;generalize (wr.alloc _)=Y2 at eb2 hgY |-;obtain⟨o0,o1,o2,o3,o4,o5,o6,of,ol⟩:=jb eb2;have tk:=za hgY tk;have hgtY:gt<Y2.heap.size:=Vn hgtw hgY.size;have hHY:=hR7.out.fH hgY;have hPY:=hPR.out.fH hgY;go_region_held3 (fun w'=>Vg w' ⟨g14,0,I⟩=F (C Z x.Op.Code)/\Vg w' ⟨g14,1,I⟩=F (C Z x.Op.iz)/\Vg w' ⟨g14,2,I⟩=F (C Z x.fZ)/\Vg w' ⟨g14,3,I⟩=F (X x.fA)/\Vg w' ⟨g14,4,I⟩=F (J A20 x.fP.length c20)/\Vg w' ⟨g14,5,I⟩=F (C Z x.fT)/\Vg w' ⟨g14,6,I⟩=F (X x.fU)/\Vg w' ⟨gt,k,I⟩=F (C Z sk)) ((repeat' apply Vm) <;> ((repeat (first | with_reducible assumption | with_reducible refine zd ?_ _ _ | with_reducible refine zq ?_ _ | with_reducible refine zc ?_ | with_reducible refine ow ?_ _));done)) (first | (refine sv (L:=rs.length+1) rfl (.tmp 104) (.tmp 111) KQ (Fq 8) (hHY.fH gF) (W1:=w) (B:=0) (ec:=[C Z sk,C Z x.Op.Code,C Z x.Op.iz,C Z x.fZ,X x.fA,J A20 x.fP.length c20,C Z x.fT,X x.fU]) (y:=[C Z sk,C Z x.Op.Code,C Z x.Op.iz,C Z x.fZ,X x.fA,J A20 x.fP.length c20,C Z x.fT,X x.fU]) ⟨rfl,rfl,by intro u hu;simp only[VT,WB,Xy] at hu;rcases hu with rfl | rfl | rfl | rfl | rfl | rfl | rfl | rfl <;> rfl⟩ rfl rfl rfl (by intro j u hu;simpa[go_sem] using hu) rfl fh fh ?_;intro A8 c8 W8 S8 hon hH8 hS8;have o0:=(hon.cell (g:=g14) (Vn ol (fy.size gF)) hg14S _).trans (za gF o0);have o1:=(hon.cell (g:=g14) (Vn ol (fy.size gF)) hg14S _).trans (za gF o1);have o2:=(hon.cell (g:=g14) (Vn ol (fy.size gF)) hg14S _).trans (za gF o2);have o3:=(hon.cell (g:=g14) (Vn ol (fy.size gF)) hg14S _).trans (za gF o3);have o4:=(hon.cell (g:=g14) (Vn ol (fy.size gF)) hg14S _).trans (za gF o4);have o5:=(hon.cell (g:=g14) (Vn ol (fy.size gF)) hg14S _).trans (za gF o5);have o6:=(hon.cell (g:=g14) (Vn ol (fy.size gF)) hg14S _).trans (za gF o6);have tk:=(hon.cell (g:=gt) (Vn hgtY (fy.size gF)) hgtS _).trans (za gF tk)))
     all_goals go_wp2_with(fail)
     all_goals go_roundw
     case measure=>exact iC
     case rel=>
      have hrow:pM w.heap.size Y2 S7 [C Z sk,C Z x.Op.Code,C Z x.Op.iz,C Z x.fZ,X x.fA,J A20 x.fP.length c20,C Z x.fT,X x.fU] (lY ST k x):=by
       rw[hPL.out];exact⟨A20,c20,Sc,rfl,Ty.jG _ hchO hgY,fun b hb=>hScS b hb,hskI,hxcI,bi,hxlI,hxdI⟩
      exact⟨k+1,rs++[[C Z sk,C Z x.Op.Code,C Z x.Op.iz,C Z x.fZ,X x.fA,J A20 x.fP.length c20,C Z x.fT,X x.fU]],acc++[lY ST k x],A8,c8,S8,by rw[Vk];rfl,io,fh,fk (G9 hO7.out hS7.out (fy.trans hgY gF) hon),fk (Ja hO7.out hS7.out (fy.trans hgY gF) hS8),fk (by rw[Vk];exact hH8),fk (iV.push hPY hrow gF hon hS8),fk (by rw[<-hA4.out,HAT.out,VM];rfl),by rw[Vk,Wi];omega⟩
   ·obtain rfl:k=iM.length:=fh
    have be:¬ ((iM.length:Int)<(iM.length:Int)):=fh;have bO:Hid (acc=a7++jZ iM a):=fk (by rw[<-hA4.out,VW];simp[tr]);have cg:=a3.out.size;have ce:=aM.out.size;have cf:=hO7.out.size;have cd:=a8.out.size;go_wp2_with(fail);go_roundw;exact⟨f+1,a1,rs,acc,A7,c7,S7,rfl,rfl,io,fh,fh,fh,fh,fk (hO7.out.fH (a8.out.trans (a3.out.trans aM.out)) (fun b hb=>Zj (aA.out b hb))),fk ((hO7.out.block w.heap.size (by have:=(blt ap.out);omega) (fun hm=>by have:=aA.out _ hm;omega)).trans (zj ap.out (a3.out.trans aM.out))),fk (fun b hb=>(hS7.out b hb).elim (aA.out b) (fun h=>by have:=(blt ap.out);omega)),hR7,hPR,fk (by rw[<-b4.out,au.out,bO.out,aV.out,VM])⟩;exact iC
 ·obtain rfl:f=(zn p).length:=fh
  have bW:¬ (((zn p).length:Int)<((zn p).length:Int)):=fh;have HQ:Hid (a7=lP p ⟨bF,bI,bFo,bS⟩ image):=fk (by rw[<-b4.out,Ws];simp[pe]);go_wp2_with(first | (go_at_call 106;refine(zb4 (Ty.up _ hx (a8.out.trans gF)) hll).mono ?_;rintro e w5 ⟨A5,c5,S5,rfl,b6,b7,a2⟩));exact Vr (v:=J aL aR.length aO) (by simp[VF,results124,go_sem]) rfl (show DG _ w _ _ from by rw[<-HQ.out];exact⟨aL,aO,aR,ak,by rw[ar.out.1],by rw[<-ar.out.1];exact(aB.out.fH a2).fH gF,(ar.out.fH a2).fH gF,fun b hb=>Zj (aA.out b hb),(a8.out.trans a2).trans gF⟩)
def rJ (p:D fB)(i:ii)(x:gC):D fR:=if x.fE.Op.Code=13∨x.fE.Op.Code=15/\lC p x.fE.fZ=0 then i.fq++[⟨kX p x.fE.fZ,x.fN,0⟩] else i.fq
theorem EV (p:D fB)(i:ii)(x:gC):pd p i x=⟨i.Code++jV x.fE.Op,rY (rJ p i x) ((i.Code++jV x.fE.Op).size:Nat)⟩:=rfl
theorem PF {l:D fR} {n:Int} (hl:l.length=m+1)(hq:l[m]?=F q):rY l n=l.set m { q with iG:=n-q.fA }:=by
 have h:l.getLast?=F q:=by rw[Yz,hl];exact hq
 unfold rY;rw[h];simp only;apply Zf;intro j;rw[Zd];by_cases hj:m=j
 ·subst hj
  rw[Vs rfl,Vs fh,VX (by simp;omega)];simp[hl]
 ·rw[Vo hj]
  exact xC
theorem Es {p:D fB}{xs:D gC}(ha:∀ x∈xs,sT p x):∀ k,k<=xs.length->∀ s∈(nj p xs k).fq,0<=s.fA/\s.fA<=100000
 | 0,_,s,hs=>by cases hs
 | k+1,h,s,hs=>by
  have hx:xs[k]?=F xs[k]:=Vq fh;rw[Fo hx,EV] at hs
  have hk:∀ s∈rJ p (nj p xs k) xs[k],0<=s.fA/\s.fA<=100000:=by
   intro s hs;unfold rJ at hs;split at hs
   ·rcases VA.1 hs with hs | hs
    ·exact Es ha k fh s hs
    ·rw[Vi] at hs
     subst hs;exact(ha _ (List.getElem_mem _)).off
   ·exact Es ha k fh s hs
  simp only at hs;unfold rY at hs;split at hs
  ·exact hk s hs
  ·rename_i q hq
   rcases VA.1 hs with hs | hs
   ·exact hk s ((List.dropLast_sublist _).subset hs)
   ·rw[Vi] at hs
    subst hs;exact hk q (List.mem_of_getLast? hq)
theorem yR {o0 o1:Value} (h:W.heap[g]?=F (U #[o0,o1] e (0,0))) :
  Vg W ⟨g,0,I⟩=F o0/\Vg W ⟨g,1,I⟩=F o1/\(∀ j,VE W ⟨g,j,I⟩=M)/\g<W.heap.size:=by
 refine⟨?_,?_,fun j=>by simp[VE,h],(blt h)⟩
 all_goals
  rw[WC W g _ _ _ (0,0) h]
  rfl
theorem Ly {xs:D fR} (h:Has (kr.sl e) W [J A n c] xs S)(hq:xs[m]?=F q):∃ g,A=F ⟨g,0,I⟩/\g∈S/\g<W.heap.size/\(∀ j,VE W ⟨g,j,I⟩=M)/\Vg W ⟨g,m*3+1,I⟩=F (C Z q.fA)/\Vg W ⟨g,m*3+2,I⟩=F (C Z q.iG)/\
  ∀ v,fQ v->Has (kr.sl e) (W.setCell ⟨g,m*3+2,I⟩ (C Z v)) [J A n c] (xs.set m { q with iG:=v }) S/\fG S W (W.setCell ⟨g,m*3+2,I⟩ (C Z v)):=by
 obtain⟨g,ec,Sc,rfl,a1,a2,_,_,_,hO,hf,hc,a0,_⟩:=sA h.1 h.2 hq;obtain⟨rfl,rfl,b0,b1,b2⟩:=QF hO;refine⟨g,rfl,a1,a2,hf,hc 1 _ rfl,hc 2 _ rfl,fun v hv=>?_⟩;have hp:=a0 2 (C Z v) { q with iG:=v } gv rfl (OC (x:={ q with iG:=v }) b0 b1 hv);exact⟨⟨hp.1,h.2⟩,hp.2⟩
def Mf (i:ii)(w:V)(r:Z9)(w':V):Prop:=∃ A c S,r=.returned (.agg #[Q i.Code,J A i.fq.length c])/\Has (kr.sl 137) w' [J A i.fq.length c] i.fq S/\(∀ b∈S,w.heap.size<=b)/\fy w w'
theorem J6 (p:D fB)(b:gP)(image:Int):zP p b image=nj p (lP p b image) (lP p b image).length:=by
 unfold zP nj;rw[WG]
theorem ziT (hx:(zS.sl 99).R w w.heap.size [J A p.length c] p)(hll:p.length<=1099511627776)(hs:∀ x∈p,x.gD.length<=1099511627776/\x.Expr.length<=1099511627776) :
  VK prog 105 #[J A p.length c,.agg #[C Z b.gW,C Z b.gN,X b.iO,X b.ic],C Z image] w (Mf (zP p b image) w):=by
 obtain⟨af,aX,ag⟩:=Ez p b image;have bb:=fk (J6 p b image);have aO:=fun(W:V) (h:(zS.sl 99).R W W.heap.size [J A p.length c] p)=>zm5 (w:=W) (A:=A) (c:=c) (b:=b) (image:=image) h hll hs;generalize lP p b image=xs at af aX ag bb aO;have aL:=fk aO;have ak:=fk af;have al:=fk ag;clear aO af ag;have ez:(((w.alloc (U #[C Z b.gW,C Z b.gN,X b.iO,X b.ic] 71)).alloc (U #[Q iK,J I 0 0] 103)).alloc (U #[Q iK,J I 0 0] 103)).heap[w.heap.size+1+1]?=F (U #[Q iK,J I 0 0] 103 (0,0)):=by have h:=Vj ((w.alloc (U #[C Z b.gW,C Z b.gN,X b.iO,X b.ic] 71)).alloc (U #[Q iK,J I 0 0] 103)) (U #[Q iK,J I 0 0] 103);rw[VH,VH] at h;exact h
 have be:(((w.alloc (U #[C Z b.gW,C Z b.gN,X b.iO,X b.ic] 71)).alloc (U #[Q iK,J I 0 0] 103)).alloc (U #[Q iK,J I 0 0] 103)).heap[w.heap.size+1]?=F (U #[Q iK,J I 0 0] 103 (0,0)):=by have h:=Vj (w.alloc (U #[C Z b.gW,C Z b.gN,X b.iO,X b.ic] 71)) (U #[Q iK,J I 0 0] 103);rw[VH] at h;exact zj h ((fy.refl _).alloc _)
 have EZ:=fk ez;have bn:=fk be;clear ez be;go_enter func105,ntmps105;go_wp2_with(first | (go_at_call 124;refine(aL.out _ (Ty.up _ hx gF)).mono ?_;rintro e w2 ⟨A8,c8,rs,S8,rfl,bi,aE,ae,av⟩));obtain⟨g7,a5⟩:∃ g,w.heap.size+1+1=g:=⟨_,rfl⟩
 obtain⟨g6,ai⟩:∃ g,w.heap.size+1=g:=⟨_,rfl⟩
 simp only[VH] at aE ae;rw[a5] at aE ae;have az:fy w w2:=fy.trans (b:=_) gF av;have a4:=zj EZ.out av;have a9:=zj bn.out av;rw[a5] at a4;rw[ai] at a9;rw[a5,ai];have bl:=av.size;simp only[VH] at bl;rw[a5] at bl;have ac:=fk az;have b8:=fk a9;have bc:=fk aE;have aM:=fk bi;have bd:=fk ae;have bB:w.heap.size<g7:=fh;have aT:g6≠g7:=fh;have bA:g6<g7:=fh;have au:w.heap.size<=g6:=fh;clear az a9 aE bi ae av a5 ai;go_loopw [9] (fun z9 wr=>∃(k:Nat) (A:N VQ) (c1:Nat) (S1:D Nat),z9=C Z k/\k<=xs.length/\Hid (wr.heap[g7]?=F (U #[Q (nj p xs k).Code,J A (nj p xs k).fq.length c1] 103 (0,0)))/\Hid (Has (kr.sl 137) wr [J A (nj p xs k).fq.length c1] (nj p xs k).fq S1)/\Hid (∀ b∈S1,w2.heap.size<=b)/\Hid (fG [g7] w2 wr)) (fun z9 _=>xs.length-(Wj z9).toNat)
 case atStart=>exact⟨0,I,0,[],rfl,Vu _,fk a4,fk (Has.nil _ _ _),fk (fun b hb=>by cases hb),fk (fG.refl _ _)⟩
 case round=>
 obtain⟨k,A,c1,S1,rfl,hk,a4,hH,a1,hO⟩:=hrel;by_cases hkl:k<xs.length
 ·have bG:(k:Int)<(xs.length:Int):=fh
  have c3:Vl Z ((k:Int)+1)=(k:Int)+1:=iw;have bx:=(bc.out.only hO.out (fun b hb=>by simp only[Vi] at hb;omega)).read (aM.out.gu hO.out (fun b hb hm=>by simp only[Vi] at hm;have:=bd.out b hb;omega)) rfl;obtain⟨g,c6,x,aB,aD,bt,aU,aH,x0,x1,x2,x3,x4,x5,x6,x7,b0,b1,b2,b3,h5,b6⟩:=vi bx hkl;obtain⟨gq,_,_,ap,aW,bE,_⟩:=sA aM.out.1 aM.out.2 (Vq (l:=rs) (i:=k) (by rw[bc.out.1];exact hkl));subst bt;injection ap with ap
  injection ap with ap hoff
  subst ap;subst hoff;simp only[VJ] at x0 x1 x2 x3 x4 x5 x6 x7;have bC:=bd.out g aW;have bk:=ak.out x (Vx aH);obtain⟨bz,bK,bL⟩:=Dt al.out k fh;obtain⟨_,a3,aj⟩:=Dt al.out (k+1) fh;have b5:=Es ak.out (k+1) fh;have aZ:=Fo (p:=p) aH;rw[aZ,EV] at aj b5 a3;simp only[EM] at a3;have aK:=fk (aZ.trans (EV p _ x));have aN:=fk b5;have aC:=fk (aj fh);have bU:=fk aH;have am:=fk a3;clear aZ b5 aj a3 aH;generalize nj p xs k=im at a4 hH bz bK bL aK aN aC am;simp only[EM] at aC;have aG:fy w wr:=hO.out.fH ac.out (fun b hb=>by simp only[Vi] at hb;omega);obtain⟨ln,bj⟩:∃ n:Nat,x.fE.fZ=(n:Int):=⟨x.fE.fZ.toNat,by have:=bk.line;omega⟩
  have aY:ln<p.length:=by have:=bk.line;omega
  have bI:(ln:Int)<(p.length:Int):=fh;obtain⟨gp,op,u,bS,bV,bT,bW,hA,bD,hu,u0,v1,_,_,_,bM,_⟩:=nA hx aY;subst hA;have bJ:kX p x.fE.fZ=u.fJ:=by rw[bj];exact Af hu
  have bH:lC p x.fE.fZ=u.fC:=by rw[bj];exact vL hu
  have aV:=Wf _ _ u0;simp only at aV;go_upto_region 7 with(fail);have eb:(wr.alloc (U #[C Z x.fE.Op.Code,C Z x.fE.Op.iz,C Z (ln:Int),X x.fE.fA,J aB x.fE.fP.length aD,C Z x.fE.fT,X x.fE.fU] 227)).heap[wr.heap.size]?=F (U #[C Z x.fE.Op.Code,C Z x.fE.Op.iz,C Z (ln:Int),X x.fE.fA,J aB x.fE.fP.length aD,C Z x.fE.fT,X x.fE.fU] 227 (0,0)):=Vj _ _;have a2:fy wr (wr.alloc (U #[C Z x.fE.Op.Code,C Z x.fE.Op.iz,C Z (ln:Int),X x.fE.fA,J aB x.fE.fP.length aD,C Z x.fE.fT,X x.fE.fU] 227)):=(fy.refl _).alloc _;obtain⟨a8,ah⟩:∃ g,wr.heap.size=g:=⟨_,rfl⟩
  rw[ah] at eb |-;have bo:=fk ah;have bP:=hO.out.size;have ar:a8≠g7:=fh;have ad:a8∉S1:=fun hm=>by have h:=hH.out.lt a8 hm;omega
  have ao:g7∉S1:=fun hm=>by have h:=a1.out g7 hm;omega
  have gS:g∉S1:=fun hm=>by have h:=a1.out g hm;omega
  have bf:gp∉S1:=fun hm=>by have h:=a1.out gp hm;omega
  clear ah;generalize (wr.alloc _)=Y at eb a2 |-;obtain⟨o0,o1,o2,_,_,_,_,_,ol⟩:=jb eb;obtain⟨z0,z1,zf,a0⟩:=yR (zj a4.out a2);have u0:=za (aG.trans a2) u0;have v1:=za (aG.trans a2) v1;have x0:=za a2 x0;have aU:g<Y.heap.size:=by have:=a2.size;omega
  have ax:gp<Y.heap.size:=by have:=a2.size;omega
  have aQ:=fk (hH.out.fH a2);go_cut [45] from 16 to 90 (fun v wx=>v=X (decide (x.fE.Op.Code=13∨x.fE.Op.Code=15/\u.fC=0))/\Y=wx)
  case first=>
   by_cases h13:x.fE.Op.Code=13
   ·have bq:(x.fE.Op.Code == 13)=H:=V4.2 h13
    have HD:=fk (show H=decide (x.fE.Op.Code=13∨x.fE.Op.Code=15/\u.fC=0) from(Vv (.inl h13)).symm);clear h13;go_wp2_with(fail);go_meet;exact⟨by rw[<-HD.out],rfl⟩
   ·have bq:(x.fE.Op.Code == 13)=M:=Vw.2 h13
    by_cases h15:x.fE.Op.Code=15
    ·have br:(x.fE.Op.Code == 15)=H:=V4.2 h15
     by_cases hk0:u.fC=0
     ·have ck:(u.fC == 0)=H:=V4.2 hk0
      have HD:=fk (show H=decide (x.fE.Op.Code=13∨x.fE.Op.Code=15/\u.fC=0) from(Vv (.inr ⟨h15,hk0⟩)).symm);clear h13 h15 hk0;go_wp2_with(fail);go_meet;exact⟨by rw[<-HD.out],rfl⟩
     ·have ck:(u.fC == 0)=M:=Vw.2 hk0
      have HD:=fk (show M=decide (x.fE.Op.Code=13∨x.fE.Op.Code=15/\u.fC=0) from(Vp (fun h=>h.elim h13 (fun h=>hk0 h.2))).symm);clear h13 h15 hk0;go_wp2_with(fail);go_meet;exact⟨by rw[<-HD.out],rfl⟩
    ·have br:(x.fE.Op.Code == 15)=M:=Vw.2 h15
     have HD:=fk (show M=decide (x.fE.Op.Code=13∨x.fE.Op.Code=15/\u.fC=0) from(Vp (fun h=>h.elim h13 (fun h=>h15 h.1))).symm);clear h13 h15;go_wp2_with(fail);go_meet;exact⟨by rw[<-HD.out],rfl⟩
  obtain⟨rfl,rfl⟩:=hcut;go_upto_if 45 with(fail)
  go_cut [] from 16 to 90 (fun wx=>∃(A:N VQ) (c1:Nat) (S1:D Nat),wx.heap[g7]?=F (U #[Q im.Code,J A (rJ p im x).length c1] 103 (0,0))/\Has (kr.sl 137) wx [J A (rJ p im x).length c1] (rJ p im x) S1/\(∀ b∈S1,w2.heap.size<=b)/\fG [g7] w2 wx/\wx.heap[a8]?=F (U #[C Z x.fE.Op.Code,C Z x.fE.Op.iz,C Z (ln:Int),X x.fE.fA,J aB x.fE.fP.length aD,C Z x.fE.fT,X x.fE.fU] 227 (0,0)))
  case first=>
   rw[<-bH];by_cases hif:x.fE.Op.Code=13∨x.fE.Op.Code=15/\lC p x.fE.fZ=0
   ·rw[Vv hif]
    have an:Hid (rJ p im x=im.fq++[⟨u.fJ,x.fN,0⟩]):=fk (by unfold rJ;rw[Vs hif,bJ]);clear hif;go_upto_region 8 with(fail);refine lO (fun w'=>Vg w' ⟨g7,1,I⟩=F (J A im.fq.length c1)/\Vg w' ⟨a8,2,I⟩=F (C Z (ln:Int))/\Vg w' ⟨gp,op+ln*4+1,I⟩=F (Q u.fJ)/\Vg w' ⟨g,k*8,I⟩=F (C Z x.fN)) 17 gU (by((repeat' apply Vm) <;> ((repeat (first | with_reducible assumption | with_reducible refine zd ?_ _ _ | with_reducible refine zq ?_ _ | with_reducible refine zc ?_ | with_reducible refine ow ?_ _));done))) (fun hH=>?_);refine .tq 0 [17] hH ?_;refine .tq 1 [17] hH ?_;refine .tq 2 [17] hH ?_;refine .tq 3 [17] hH ?_;refine .tq 4 [17] hH ?_;refine .tq 5 [17] hH ?_;refine .tq 6 [17] hH ?_;refine .tq 7 [17] hH ?_;refine .tq 8 [17] hH ?_;refine .tq 9 [17] hH ?_;refine .tq 10 [17] hH ?_;refine .tq 11 [17] hH ?_;refine .tq 12 [17] hH ?_;refine .tq 13 [17] hH ?_;refine fL.one (i:=14) gU rfl (fun K hK=>?_);go_simp;refine hK.out _ _ (by((repeat' apply Vm) <;> ((repeat (first | with_reducible assumption | with_reducible refine zd ?_ _ _ | with_reducible refine zq ?_ _ | with_reducible refine zc ?_ | with_reducible refine ow ?_ _));done))) (fun hH14=>?_);clear hK hH
    try simp only[lay]
    refine fL.one (i:=15) gU rfl (fun K hK=>?_);(refine sv (L:=im.fq.length+1) rfl (.tmp 47) (.tmp 60) FJ EF (aQ.out.fH gF) (W1:=w) (B:=0) (ec:=[Q u.fJ,C Z x.fN,C Z 0]) (y:=(⟨u.fJ,x.fN,0⟩:fR)) (Io (x:=(⟨u.fJ,x.fN,0⟩:fR)) bM b0 ⟨by show (_:Int)<=0;omega,by show (0:Int)<=_;omega⟩) rfl rfl rfl (by intro j u hu;simpa[go_sem] using hu) rfl fh fh ?_;intro A8 c8 W8 S8 ab bu ae;have z1:=(ab.cell (g:=g7) (Vn a0 (fy.size gF)) ao _).trans (za gF z1);have o2:=(ab.cell (g:=a8) (Vn ol (fy.size gF)) ad _).trans (za gF o2);have v1:=(ab.cell (g:=gp) (Vn ax (fy.size gF)) bf _).trans (za gF v1);have x0:=(ab.cell (g:=g) (Vn aU (fy.size gF)) gS _).trans (za gF x0);have cc:∀ j,VE W8 ⟨g7,j,I⟩=M:=fun j=>(ab.frozen (g:=g7) (Vn a0 (fy.size gF)) ao j).trans ((((show fy Y _ from gF).only []).frozen a0 gm j).trans (zf j));have ce:g7<W8.heap.size:=Vn (Vn a0 (fy.size gF)) ab.size);refine hK.out _ _ (by((repeat' apply Vm) <;> ((repeat (first | with_reducible assumption | with_reducible refine zd ?_ _ _ | with_reducible refine zq ?_ _ | with_reducible refine zc ?_ | with_reducible refine ow ?_ _));done))) (fun hH1415=>?_);clear hK hH14
    try simp only[lay]
    refine .tq 16 [17] hH1415 ?_;refine fL.last gU rfl gU (fun K hK=>?_);go_simp;refine hK.out _ _ ?_;clear hK
    try simp only[lay]
    go_wp2_with(fail);go_meet;have b7:fG [g7] W8 (W8.setCell ⟨g7,1,I⟩ (J A8 (im.fq.length+1) c8)):=(fG.refl _ _).setCell (p:=⟨g7,1,I⟩) gm _;have bw:fG [g7] w2 W8:=hO.out.then ((((a2.trans (show fy Y _ from gF)).only S1).trans ab)) (fun b hb=>.inr (a1.out b hb));have aP:g7∉S8:=fun hm=>(ae g7 hm).elim ao (fun h=>absurd (Vn a0 (fy.size gF)) (Nat.not_lt.2 h));refine⟨A8,c8,S8,?_,by rw[an.out,Vk];exact bu.gu b7 (fun b hb hm=>by simp at hm;exact aP (hm ▸ hb)),fun b hb=>(ae b hb).elim (a1.out b) (fun h=>VL (VL hO.out.size (a2.trans (show fy Y _ from gF)).size) h),bw.trans b7,?_⟩
    ·rw[an.out,Vk]
     exact ko (i:=1) (v:=J A8 (im.fq.length+1) c8) (cur':=#[Q im.Code,J A8 (im.fq.length+1) c8]) ((ab.block g7 (Vn a0 (fy.size gF)) ao).trans (zj (zj a4.out a2) gF)) rfl
    ·exact(b7.block a8 (Vn (Vn ol (fy.size gF)) ab.size) (by simp;exact ar)).trans ((ab.block a8 (Vn ol (fy.size gF)) ad).trans (zj eb gF))
   ·rw[Vp hif]
    have an:Hid (rJ p im x=im.fq):=fk (Vo hif);clear hif;go_wp2_with(fail);go_meet;exact⟨A,c1,S1,by rw[an.out];exact(zj a4.out a2),by rw[an.out];exact aQ.out,a1.out,hO.out.trans (a2.only _),eb⟩
  case rest=>
   clear z0 z1 zf a0 u0 v1 x0 aQ o0 o1 o2 ol eb ao ad gS bf aU ax;obtain⟨A,c1,S1,a4,hH,a1,hO,eb⟩:=hcut;obtain⟨z0,z1,zf,a0⟩:=yR a4;obtain⟨o0,o1,_,_,_,_,_,_,_⟩:=jb eb;have ba:=hH;clear hH;have bY:=Kg x.fE.Op;have bZ:¬ 9223372036854775807<im.Code.size+(jV x.fE.Op).size:=fh;go_upto_region 9 with(fail);refine lO (fun w'=>Vg w' ⟨g7,0,I⟩=F (Q im.Code)/\Vg w' ⟨a8,0,I⟩=F (C Z x.fE.Op.Code)/\Vg w' ⟨a8,1,I⟩=F (C Z x.fE.Op.iz)) 7 gU (Vm (zc z0) (Vm (zc o0) (zc o1))) (fun hH=>?_);have aa:fy wc wc.drew:=(fy.refl _).drew;clear z0 o0 o1;generalize wc.drew=wx at aa hH |-;obtain⟨z0,o0,o1⟩:=id hH;refine .tk 0 [7] hH ?_;refine .tk 1 [7] hH ?_;refine .tk 2 [7] hH ?_;refine .tk 3 [7] hH ?_;refine fL.one (i:=4) gU rfl (fun K hK=>?_);go_simp;go_at_call 162;refine(zx3 x.fE.Op _).mono ?_;rintro e v1 ⟨rfl,aF⟩;have a6:=aa.trans aF;have bQ:∀ j,VE v1 ⟨g7,j,I⟩=M:=fun j=>((a6.only []).frozen a0 gm j).trans (zf j);have bR:g7<v1.heap.size:=Vn a0 a6.size;have z0:=za aF z0;have o0:=za aF o0;have o1:=za aF o1;refine hK.out _ _ (Vm z0 (Vm o0 o1)) (fun hI=>?_);clear hK hH;have hH:=hI
   try simp only[lay]
   refine .tk 5 [7] hH ?_;refine .tk 6 [7] hH ?_;refine fL.last gU rfl gU (fun K hK=>?_);go_simp;refine hK.out _ _ ?_;clear hK
   try simp only[lay]
   have b9:=(ko (i:=0) (v:=Q (im.Code++jV x.fE.Op)) (cur':=#[Q (im.Code++jV x.fE.Op),J A (rJ p im x).length c1]) (zj a4 a6) rfl)
   have bh:fG [g7] w2 (v1.setCell ⟨g7,0,I⟩ (Q (im.Code++jV x.fE.Op))):=(hO.trans (a6.only _)).setCell (p:=⟨g7,0,I⟩) gm _;have bm:fG [g7] v1 (v1.setCell ⟨g7,0,I⟩ (Q (im.Code++jV x.fE.Op))):=(fG.refl _ _).setCell (p:=⟨g7,0,I⟩) gm _;have aq:=(ba.fH a6).gu bm (fun b hb hm=>by simp only[Vi] at hm;have:=a1 b hb;omega);go_upto_region 10 with(fail);clear bm ba z0 z1 zf bR bQ o0 o1 a0 eb a4;generalize (v1.setCell _ _)=W9 at b9 bh aq |-;have aS:(im.Code++jV x.fE.Op).size<=5*k+5:=by rw[V5];omega
   generalize (im.Code++jV x.fE.Op)=cd at b9 aS aK aN aC;obtain⟨m,hm⟩:∃ m,(rJ p im x).length=m+1:=⟨(rJ p im x).length-1,by have:=aC.out;omega⟩
   obtain⟨q,hq⟩:∃ q,(rJ p im x)[m]?=F q:=⟨_,Vq fh⟩
   have b4:=fun n=>PF (n:=n) hm hq;have c2:0<=q.fA/\q.fA<=100000:=aN.out { q with iG:=(cd.size:Nat)-q.fA } (by rw[b4];exact Vx (i:=m) (by rw[WU fh]));have a3:=am.out;rw[hm] at a3;have aJ:=fk (aK.out.trans (by rw[b4]));generalize rJ p im x=sy at b9 aq hm hq aJ;rw[hm] at b9 aq;obtain⟨gs,rfl,bF,ay,qf,q1,q2,_⟩:=Ly aq hq;obtain⟨z0,z1,_,a0⟩:=yR b9;have c5:Vl Z ((cd.size:Int)-q.fA)=(cd.size:Int)-q.fA:=iw;have c4:Vl Z ((m:Int)+1-1)=(m:Int):=by rw[XM];exact iw
   have bN:Vl Z (m:Int)=(m:Int):=iw;have c0:(m:Int)<(m:Int)+1:=fh;have HM:=fk hm;have HQ:=fk hq;clear hm hq b4;refine lO (fun w'=>Vg w' ⟨g7,0,I⟩=F (Q cd)/\Vg w' ⟨g7,1,I⟩=F (J (F ⟨gs,0,I⟩) (m+1) c1)/\Vg w' ⟨gs,m*3+1,I⟩=F (C Z q.fA)/\Vg w' ⟨gs,m*3+2,I⟩=F (C Z q.iG)) 21 gU (Vm (zc z0) (Vm (zc z1) (Vm (zc q1) (zc q2)))) (fun hH=>?_);have aa:fy W9 W9.drew:=(fy.refl _).drew;clear z0 z1 q1 q2;generalize W9.drew=wx at aa hH |-;obtain⟨z0,z1,q1,q2⟩:=id hH;have c7:∀ j,VE wx ⟨gs,j,I⟩=M:=fun j=>((aa.only []).frozen ay gm j).trans (qf j);have ca:gs<wx.heap.size:=Vn ay aa.size;refine .tk 0 [21] hH ?_;refine .tk 1 [21] hH ?_;refine .tk 2 [21] hH ?_;refine .tk 3 [21] hH ?_;refine .tk 4 [21] hH ?_;refine .tk 5 [21] hH ?_;refine .tk 6 [21] hH ?_;refine .tk 7 [21] hH ?_;refine .tk 8 [21] hH ?_;refine .tk 9 [21] hH ?_;refine .tk 10 [21] hH ?_;refine .tk 11 [21] hH ?_;refine .tk 12 [21] hH ?_;refine .tk 13 [21] hH ?_;refine .tk 14 [21] hH ?_;refine .tk 15 [21] hH ?_;refine .tk 16 [21] hH ?_;refine .tk 17 [21] hH ?_;refine .tk 18 [21] hH ?_;refine .tk 19 [20,21] hH ?_;refine .tk 20 [21] hH ?_;refine fL.last gU rfl gU (fun K hK=>?_);go_simp;refine hK.out _ _ ?_;clear hK
   try simp only[lay]
   obtain⟨bX,a7,_,_,_,_,_,aA⟩:=Ly (aq.fH aa) HQ.out;injection a7 with a7
   injection a7 with a7
   subst a7;have hp:=aA ((cd.size:Int)-q.fA) ⟨fh,fh⟩;have aR:fG [g7] w2 (wx.setCell ⟨gs,m*3+2,I⟩ (C Z ((cd.size:Int)-q.fA))):=(bh.trans (aa.only _)).then hp.2 (fun b hb=>.inr (a1 b hb));have bs:g7∉S1:=fun hm=>by have:=a1 g7 hm;omega
   have bp:=(hp.2.block g7 (Vn a0 aa.size) bs).trans (zj b9 aa);have HP:=fk hp.1;clear aA hp;go_wp2_with(fail);go_roundw
   case measure=>exact iC
   case rel=>
    refine⟨k+1,F ⟨gs,0,I⟩,c1,S1,io,fh,?_,?_,fk a1,fk aR⟩
    ·rw[aJ.out]
     show Hid (_=F (U #[Q cd,J (F ⟨gs,0,I⟩) (sy.set m { q with iG:=(cd.size:Nat)-q.fA }).length c1] _ _));rw[VY,HM.out];exact fk bp
    ·rw[aJ.out]
     show Hid (Has _ _ [J (F ⟨gs,0,I⟩) (sy.set m { q with iG:=(cd.size:Nat)-q.fA }).length c1] (sy.set m { q with iG:=(cd.size:Nat)-q.fA }) S1);rw[VY,HM.out];exact HP
 ·obtain rfl:k=xs.length:=fh
  have bG:¬ ((xs.length:Int)<(xs.length:Int)):=fh;obtain⟨z0,z1,zf,a0⟩:=yR a4.out;have bP:=hO.out.size;have a9:=(hO.out.block g6 (by have:=(blt b8.out);omega) (by simp;exact aT)).trans b8.out;obtain⟨y0,y1,yf,bO⟩:=yR a9;have aG:fy w wr:=hO.out.fH ac.out (fun b hb=>by simp only[Vi] at hb;omega);have aI:=fk a9;clear a9;go_wp2_with(fail);have a9:=ko (i:=1) (v:=J A (nj p xs xs.length).fq.length c1) (cur':=#[Q (nj p xs xs.length).Code,J A (nj p xs xs.length).fq.length c1]) (ko (i:=0) (v:=Q (nj p xs xs.length).Code) (cur':=#[Q (nj p xs xs.length).Code,J I 0 0]) aI.out rfl) rfl;have aw:=(aG.setRow (p:=⟨g6,0,I⟩) au (Q (nj p xs xs.length).Code)).setRow (p:=⟨g6,1,I⟩) au (J A (nj p xs xs.length).fq.length c1);have bv:fG [g6] wr ((wr.setCell ⟨g6,0,I⟩ (Q (nj p xs xs.length).Code)).setCell ⟨g6,1,I⟩ (J A (nj p xs xs.length).fq.length c1)):=((fG.refl _ _).setCell (p:=⟨g6,0,I⟩) gm _).setCell (p:=⟨g6,1,I⟩) gm _;have bg:=hH.out.gu bv (fun b hb hm=>by simp only[Vi] at hm;have:=a1.out b hb;omega);generalize ((wr.setCell _ _).setCell _ _)=W6 at a9 aw bg |-;obtain⟨r0,r1,_,_⟩:=yR a9;exact Vr (v:=.agg #[Q (nj p xs xs.length).Code,J A (nj p xs xs.length).fq.length c1]) (by simp[VF,results105,go_sem,r0,r1]) rfl (show Mf _ w _ _ from by rw[bb.out];exact⟨A,c1,S1,rfl,bg,fun b hb=>by have:=a1.out b hb;have:=ac.out.size;omega,aw⟩)
theorem OZ (h:∀ x∈xs,sT p x):∀ x∈xs,x.fE.fP.length<=100:=fun x hx=>VL (h x hx).ft fh
theorem UD (s:G)(n:Nat):fQ (oD s n):=by
 have:=LM s n
 exact⟨fh,fh⟩
theorem TW {α:Type} {T:Ty α} {W0:V} {vs:D Value} {x:α} (h:Has T W vs x S)(hS:∀ b∈S,W0.heap.size<=b):kN T W0 W.heap.size W vs x:=(Has.fresh (w:=W0) h hS).mw
theorem Qn {p:VQ} (hne:p.block≠g)(h:Vg W ⟨g,i,I⟩=F u):(W.setCell p v).cell? ⟨g,i,I⟩=F u:=(World.cell?_setCell_far _ _ _ _ hne).trans h
theorem Iq (w W:V):gH og w W [C Z 0,J I 0 0,J I 0 0,J I 0 0,J I 0 0] ⟨0,[],[],[],[]⟩:=
 ⟨_,Il (x:=⟨0,[],[],[],[]⟩) ⟨gv,gv⟩ (Has.nil kr 137 W).1 (Has.nil mh 205 W).1 (Has.nil nk 216 W).1 (Has.nil mc 214 W).1,List.nodup_nil,fun b hb=>by cases hb⟩
theorem zrd (hx:(zS.sl 99).R w w.heap.size [J A p.length c] p)(hll:p.length<=1099511627776)(hs:∀ x∈p,x.gD.length<=1099511627776/\x.Expr.length<=1099511627776)(hnm:∀ x∈p,x.fJ.size<=9223372036854775807) :
  VK prog 75 #[J A p.length c,.agg #[C Z b.gW,C Z b.gN,X b.iO,X b.ic],C Z image] w (De (qI p b image) w):=by
 obtain⟨bF,bI,a0,bS⟩:=b;have BO:=fun w=>BA (b:=⟨bF,bI,a0,bS⟩) (w:=w);have aC:=fk BO;clear BO;have EZ:Hid (((w.alloc (U #[C Z bF,C Z bI,X a0,X bS] 71)).alloc (U #[C Z 0,J I 0 0,J I 0 0,J I 0 0,J I 0 0] 108)).heap[w.heap.size+1]?=F (U #[C Z 0,J I 0 0,J I 0 0,J I 0 0,J I 0 0] 108 (0,0))):=fk (by have h:=Vj (w.alloc (U #[C Z bF,C Z bI,X a0,X bS] 71)) (U #[C Z 0,J I 0 0,J I 0 0,J I 0 0,J I 0 0] 108);rw[VH] at h;exact h);obtain⟨cc,a5⟩:∃ cc:Bool,(zA p && kC ⟨bF,bI,a0,bS⟩ && gE image 0 1)=cc:=⟨_,rfl⟩
 cases cc with
 | false=>
  have HE:Hid (qI p ⟨bF,bI,a0,bS⟩ image=⟨0,[],[],[],[]⟩):=fk (by unfold qI;rw[Vo (fun h=>by rw[h.1,h.2.1,h.2.2] at a5;cases a5)])
  have aN:∀(pb bb ib:Bool),Hid (zA p=pb)->Hid (kC ⟨bF,bI,a0,bS⟩=bb)->Hid (gE image 0 1=ib)->(pb && bb && ib)=M->VK prog 75 #[J A p.length c,.agg #[C Z bF,C Z bI,X a0,X bS],C Z image] w (De (qI p ⟨bF,bI,a0,bS⟩ image) w):=by
   intro pb bb ib an al am h0;cases pb <;> cases bb <;> cases ib <;> (try (exact absurd h0 gv))
   all_goals
    clear h0 a5
    go_enter func75,ntmps75
    go_wp2_with(first | (go_at_call 102;refine(zaU (Ty.up _ hx gF) hll hs).mono ?_;rw[an.out];rintro e w1 ⟨rfl,a4⟩;have av:fy w w1:=fy.trans (b:=_) gF a4;have a3:=fk (zj EZ.out a4);have a2:=fk av;obtain⟨b0,b1,b2,b3,bf,bl⟩:=jF (zj (Vj w (U #[C Z bF,C Z bI,X a0,X bS] 71)) (fy.trans (b:=_) gF a4));obtain⟨y0,y1,y2,y3,y4,yf,yl⟩:=jO (zj EZ.out a4)) | (go_at_call 104;refine(aC.out _).mono ?_;rw[al.out];rintro e w2 ⟨rfl,a1⟩;have a3:=fk (zj a3.out a1);have a2:=fk (a2.out.trans a1);have y0:=za a1 y0;have y1:=za a1 y1;have y2:=za a1 y2;have y3:=za a1 y3;have y4:=za a1 y4;have yf:=(jO (zj EZ.out (a4.trans a1))).2.2.2.2.2.1) | (go_at_call 43;refine(iU _ _ _ _).mono ?_;rw[am.out];rintro e w3 ⟨rfl,rfl⟩))
    obtain⟨e5,o5⟩:=uF a3.out (C Z 0) (J I 0 0) (J I 0 0) (J I 0 0) (J I 0 0)
    have az:=o5.fH a2.out (fun b hb=>by simp only[Vi] at hb;omega)
    obtain⟨r0,r1,r2,r3,r4,_,_⟩:=jO e5
    exact Vr (v:=.agg #[C Z 0,J I 0 0,J I 0 0,J I 0 0,J I 0 0]) (by simp[VF,results75,go_sem,r0,r1,r2,r3,r4]) rfl (show De _ w _ _ from by rw[HE.out];exact⟨I,0,I,0,I,0,I,0,rfl,Iq _ _,az⟩)
  exact aN _ _ _ (fk rfl) (fk rfl) (fk rfl) a5
 | true=>
  have ah:zA p=H:=by revert a5;cases zA p <;> simp
  have ax:kC ⟨bF,bI,a0,bS⟩=H:=by revert a5;cases kC ⟨bF,bI,a0,bS⟩ <;> simp
  have aA:gE image 0 1=H:=by revert a5;cases gE image 0 1 <;> simp
  have HE:Hid (qI p ⟨bF,bI,a0,bS⟩ image=⟨oD (zP p ⟨bF,bI,a0,bS⟩ image).Code (zP p ⟨bF,bI,a0,bS⟩ image).Code.size,(zP p ⟨bF,bI,a0,bS⟩ image).fq,qM (lP p ⟨bF,bI,a0,bS⟩ image),uy (lP p ⟨bF,bI,a0,bS⟩ image),nZ p (lP p ⟨bF,bI,a0,bS⟩ image)⟩):=fk (by unfold qI;rw[Vs ⟨ah,ax,aA⟩]);have aT:=(qC ah).len;obtain⟨a7,ae,a8⟩:=Ez p ⟨bF,bI,a0,bS⟩ image
  have ac:(zP p ⟨bF,bI,a0,bS⟩ image).Code.size<=72000:=by
   rw[J6];have:=(Dt (p:=p) a8 _ (Vz _)).1;omega
  have au:=fun(W:V) (h:(zS.sl 99).R W W.heap.size [J A p.length c] p)=>zm5 (w:=W) (A:=A) (c:=c) (b:=⟨bF,bI,a0,bS⟩) (image:=image) h hll hs;have aj:=fun(W:V) (h:(zS.sl 99).R W W.heap.size [J A p.length c] p)=>ziT (w:=W) (A:=A) (c:=c) (b:=⟨bF,bI,a0,bS⟩) (image:=image) h hll hs;generalize zP p ⟨bF,bI,a0,bS⟩ image=im at HE aj ac;generalize lP p ⟨bF,bI,a0,bS⟩ image=xs at HE au a7 ae a8;have ao:=fk au;have ak:=fk aj;have aO:=fk (OZ a7);have an:=fk ah;have al:=fk ax;have am:=fk aA;clear au aj a7 a8 ah ax aA a5;go_enter func75,ntmps75;go_upto_region 5 with(first | (go_at_call 102;refine(zaU (Ty.up _ hx gF) hll hs).mono ?_;rw[an.out];rintro e w1 ⟨rfl,a4⟩;have av:fy w w1:=fy.trans (b:=_) gF a4;have a3:=fk (zj EZ.out a4);have a2:=fk av;obtain⟨b0,b1,b2,b3,bf,bl⟩:=jF (zj (Vj w (U #[C Z bF,C Z bI,X a0,X bS] 71)) (fy.trans (b:=_) gF a4))) | (go_at_call 104;refine(aC.out _).mono ?_;rw[al.out];rintro e w2 ⟨rfl,a1⟩;have a3:=fk (zj a3.out a1);have a2:=fk (a2.out.trans a1);have b0:=za a1 b0;have b1:=za a1 b1;have b2:=za a1 b2;have b3:=za a1 b3) | (go_at_call 43;refine(iU _ _ _ _).mono ?_;rw[am.out];rintro e w3 ⟨rfl,rfl⟩) | (go_at_call 124;refine(ao.out _ (Ty.up _ hx a2.out)).mono ?_;rintro e w4 ⟨A8,c8,rs,S8,rfl,aS,aR,aW,aa⟩;have a3:=fk (zj a3.out aa);have aU:=(blt a3.out);have a2:=fk (a2.out.trans aa);have b0:=za aa b0;have b1:=za aa b1;have b2:=za aa b2;have b3:=za aa b3) | (go_at_call 105;refine(ak.out _ (Ty.up _ hx a2.out)).mono ?_;rintro e w5 ⟨A9,c9,S9,rfl,aH,aL,ay⟩;have a3:=fk (zj a3.out ay);have a2:=fk (a2.out.trans ay)));have aw:=a3.out;have aM:=a2.out;have aQ:=Ty.up _ (aR.read aS rfl) ay;have eb:=Vj w5 (U #[Q im.Code,J A9 im.fq.length c9] 103);have a6:fy w5 (w5.alloc (U #[Q im.Code,J A9 im.fq.length c9] 103)):=(fy.refl _).alloc _;obtain⟨g8,a9⟩:∃ g,w5.heap.size=g:=⟨_,rfl⟩
  rw[a9] at eb |-;have aV:=fk a9;have aX:=(blt aw)
  have ad:w.heap.size+1≠g8:=fh;clear a9 b0 b1 b2 b3 bf bl;generalize (w5.alloc _)=Y at eb a6 |-;obtain⟨o0,o1,_,_⟩:=yR eb;have ap:=fk (Ty.up _ aQ a6);have aP:=fk (Ty.up _ hx (aM.trans a6));go_region_held3 (fun w'=>Vg w' ⟨g8,0,I⟩=F (Q im.Code)/\Vg w' ⟨g8,1,I⟩=F (J A9 im.fq.length c9)) ((repeat' apply Vm) <;> ((repeat (first | with_reducible assumption | with_reducible refine Qn (by exact ad) ?_ | with_reducible refine zd ?_ _ _ | with_reducible refine zq ?_ _ | with_reducible refine zc ?_ | with_reducible refine ow ?_ _));done)) (first | (go_at_call 125;refine(zis (i:=im) (A:=A9) (c:=c9) fh).mono ?_;rintro e v1 ⟨rfl,aB⟩;have aq:fy Y v1:=(fy.trans (b:=_) gF aB);have o0:=za (fy.trans (b:=_) gF aB) o0;have o1:=za (fy.trans (b:=_) gF aB) o1) | (go_at_call 126;refine(zvH (Ty.up _ ap.out (aq.trans gF)) fh).mono ?_;rintro e v2 ⟨A2,c2,S2,rfl,aE,aI,ai⟩;have aD:fy Y v2:=aq.trans (fy.trans (b:=_) gF ai);have o0:=za (fy.trans (b:=_) gF ai) o0;have o1:=za (fy.trans (b:=_) gF ai) o1) | (go_at_call 127;refine(zxg (Ty.up _ ap.out (aD.trans gF)) fh).mono ?_;rintro e v3 ⟨A3,c3,S3,rfl,aF,aJ,af⟩;have ar:fy Y v3:=aD.trans (fy.trans (b:=_) gF af);have o0:=za (fy.trans (b:=_) gF af) o0;have o1:=za (fy.trans (b:=_) gF af) o1) | (go_at_call 128;refine(zqZ (Ty.up _ aP.out (ar.trans gF)) fh hs hnm (Ty.up _ ap.out (ar.trans gF)) fh aO.out).mono ?_;rintro e v4 ⟨A4,c4,S4,rfl,aG,aK,ab⟩;have ag:fy Y v4:=ar.trans (fy.trans (b:=_) gF ab);have o0:=za (fy.trans (b:=_) gF ab) o0;have o1:=za (fy.trans (b:=_) gF ab) o1;obtain⟨y0,y1,y2,y3,y4,yf,yl⟩:=jO (zj aw (a6.trans ag))))
  all_goals go_wp2_with(fail)
  obtain⟨e5,o5⟩:=uF (zj aw (a6.trans ag)) (C Z (oD im.Code im.Code.size)) (J A9 im.fq.length c9) (J A2 (qM xs).length c2) (J A3 (uy xs).length c3) (J A4 (nZ p xs).length c4);have az:=o5.fH (aM.trans (a6.trans ag)) (fun b hb=>by simp only[Vi] at hb;omega);have zY:=a6.size;have z1:=aq.size;have z2:=ai.size;have z3:=af.size;have z4:=ab.size;have q9:=(aH.fH (a6.trans ag)).gu o5 (fun b hb hm=>by simp only[Vi] at hm;have:=aL b hb;omega);have q2:=(aE.fH (af.trans ab)).gu o5 (fun b hb hm=>by simp only[Vi] at hm;have:=aI b hb;omega);have q3:=(aF.fH ab).gu o5 (fun b hb hm=>by simp only[Vi] at hm;have:=aJ b hb;omega);have q4:=(aG).gu o5 (fun b hb hm=>by simp only[Vi] at hm;have:=aK b hb;omega);obtain⟨r0,r1,r2,r3,r4,_,_⟩:=jO e5
  exact Vr (v:=.agg #[C Z (oD im.Code im.Code.size),J A9 im.fq.length c9,J A2 (qM xs).length c2,J A3 (uy xs).length c3,J A4 (nZ p xs).length c4]) (by simp[VF,results75,go_sem,r0,r1,r2,r3,r4]) rfl (show De _ w _ _ from by
   rw[HE.out]
   exact⟨A9,c9,A2,c2,A3,c3,A4,c4,rfl,Nu (x:=⟨oD im.Code im.Code.size,im.fq,qM xs,uy xs,nZ p xs⟩) (u1:=w4) (m1:=w5.heap.size) (u2:=v1) (m2:=v2.heap.size) (u3:=v2) (m3:=v3.heap.size) (u4:=v3) (m4:=v4.heap.size) (UD _ _) ⟨S9,q9.1,q9.2,fun b hb=>⟨aL b hb,aH.lt b hb⟩⟩ ⟨S2,q2.1,q2.2,fun b hb=>⟨aI b hb,aE.lt b hb⟩⟩ ⟨S3,q3.1,q3.2,fun b hb=>⟨aJ b hb,aF.lt b hb⟩⟩ ⟨S4,q4.1,q4.2,fun b hb=>⟨aK b hb,aG.lt b hb⟩⟩ fh fh fh fh (.inl fh) (.inl fh) (.inl fh) (.inl fh) (.inl fh) (.inl fh),az⟩)
end Go.Proofs.YthgbglbaemelhaaGreat
