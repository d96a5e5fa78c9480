/-
  PART.
-/
import Derived.Test.YthgbglbaemelhaaGreatM17LawThreadsApart
import Derived.Test.YthgbglbaemelhaaGreatM18LawThreadsApart
set_option linter.unusedVariables false
set_option linter.unusedSimpArgs false
set_option maxRecDepth 100000
set_option maxHeartbeats 8000000
namespace Go.Proofs.YthgbglbaemelhaaGreat
open Value renaming slice->G,int->J,bool->H,string->V
open IntKind renaming i64->Z,wrap->Rg
open Option renaming none->C,some->D,getD_some->Te
open Obj renaming cells->F
open Bool renaming false->I,true->M
open Go renaming World->U,results->Rv,Calls->RD,Addr->RJ,TypeId->R5,yielded->Th,undef->Ug
open World renaming cell?->Rb,frozen?->Rx
open _root_.Int renaming toNat_natCast->Ry
open List renaming length_cons->RA,length_nil->RR,getElem?_cons_zero->RW,nil_append->RY,length_singleton->R4
open RowKit renaming intOf->RS
open Region renaming wanted->RV,ready->Sn,noSelect->TZ,Mode->Ub,free->Wu
open Tryz
open Go.RowKit
variable {A:X RJ}{S S' S0:Q Nat}{W W' Wa a w:U}{b:fY}{c f g i k lo m n:Nat}{e:R5}{image sk ww:Int}{l:Q fM}{p:Q fw}{q:fC}{r:Q Value}{rs:Q (Q Value)}{st:Q Int}{u v:Value}{x:fM}{xs:Q fK}
theorem Ew {P:jt}(hR:qA P):∀ d:Nat,By P d
 | 0=>zpp hR (Lj hR.env)
 | d+1=>zpp hR (Li hR (Ew hR d))
def pq (p:Q fw)(b:fY)(f:Nat)(ww:Int)(g:Int):fX:=⟨p,b.IR,lB b f,ww,((iK p g).length:Int)⟩
def pI (p:Q fw)(g:Int):fH:=⟨g,[],zv p g,0,M,[]⟩
def oU (p:Q fw)(b:fY)(f:Nat)(ww:Int)(g:Int):fT:=(zI (pq p b f ww g) ⟨[],0,((zv p g).length:Int)-((iK p g).length:Int),I⟩ (if lB b f=M then 13 else 15) ww g []).gw ww
theorem KN {g:Int} (hg:(zq p)[f]?=D g):kS p b f ww=((jc (pq p b f ww g) 4 [g] (pI p g) (oU p b f ww g)).1.pi,(jc (pq p b f ww g) 4 [g] (pI p g) (oU p b f ww g)).1.gO):=by
 unfold kS;rw[hg];rfl
theorem Nd {g:Int} (hp:j9 p)(hb:fP b.IR 0 3=M)(hg:(zq p)[f]?=D g)(hw:0<=ww/\ww<=100) :
  gR (pq p b f ww g)/\iv (pq p b f ww g) (pI p g)/\iC (pq p b f ww g) (oU p b f ww g)/\∃(i e:Nat) (x:fw),g=(i:Int)/\p[i]?=D x/\x.fL=iK p g/\gz p i e/\x.fL.length<=4/\(zv p g).length<=8/\x.fL.length<=(zv p g).length:=by
 have a2:=wk hg
 have hE:gR (pq p b f ww g):=by
  obtain⟨i,rfl,x,hx,h0⟩:=a2;have:=hp.args i x hx;exact⟨hp,zu.1 hb,hw,by unfold pq;rw[wh hx];exact⟨by simp only;omega,by simp only;omega⟩⟩
 have a0:=a2.parts hE;simp only[pq] at a0;obtain⟨i,rfl,x,hx,h0⟩:=a2;obtain⟨e,he,h8,a3⟩:=hp.body i x hx h0;have a7:=(Rd.1 hx).1;have a5:=wh hx
 have hs:iv (pq p b f ww i) (pI p i):=by
  refine⟨⟨i,e,x,rfl,hx,h0,he,a3⟩,⟨rfl,h8⟩,⟨Tz _,by simp[pI]⟩,⟨by simp[pI],fun c hc=>(by cases hc)⟩,fun _=>⟨rfl,rfl,by show ((iK p (i:Int)).length:Int)<=((zv p (i:Int)).length:Int);omega⟩⟩
 have hm:iC (pq p b f ww i) (oU p b f ww i):=by
  refine⟨?_,by simp[oU,zI,fT.gw]⟩;intro j y hy;have a6:=(Rd.1 hy).1;simp only[oU,fT.gw,zI,RY,RA,RR] at a6;have hj:j=0:=by omega
  subst hj;simp only[oU,fT.gw,zI,RY,RW,RT] at hy;subst hy;have a4:kP p (i:Int)=0:=by rw[yj hx];exact h0
  simp only[oU,fT.gw,zI,RY,ud,RR,Uo,decide_false,Vh];have a1:(if lB b f=M then (13:Int) else 15)=13∨(if lB b f=M then (13:Int) else 15)=15:=by split <;> simp
  generalize (if lB b f=M then (13:Int) else 15)=code at a1;refine⟨by simp only;omega,fun h=>by simp only at h;omega,fun h h'=>by simp only at h h';omega,fun h=>by simp only at h;omega,fun h=>by simp only at h;omega,fun _ _=>hw,fun h=>by simp only at h;omega,⟨by simp only;omega,by simp only[pq];omega⟩,⟨by simp,fun c hc=>(by cases hc)⟩,⟨by simp,by simp,fun h=>(by cases h)⟩,⟨fun _=>?_,fun _=>rfl⟩⟩;rcases a1 with h | h
  ·exact .inl h
  ·exact .inr ⟨h,a4⟩
 exact⟨hE,hs,hm,i,e,x,rfl,hx,a5.symm,he,hp.args i x hx,h8,by rw[<-a5];exact a0.2.1⟩
theorem KK {QY:Int} (h0:0<=QY)(h1:QY<=63)(f:Nat):(bits .and Z (QY / 2 ^ f) 1 == 1)=decide (QY / 2 ^ f % 2=1):=by
 obtain⟨n,rfl⟩:=RE h0;have he:((n:Int) / 2 ^ f)=((n / 2 ^ f:Nat):Int):=by rw[Int.natCast_ediv,Int.natCast_pow];rfl
 have a0:n / 2 ^ f<=n:=Nat.div_le_self _ _;rw[he,AV _ K9];cases h:decide ((((n / 2 ^ f:Nat):Int)) % 2=1) with
 | true=>rw[UD] at h;rw[h];rfl
 | false=>rw[SJ] at h;exact Rm.2 h
theorem N2 {j:Nat} (hc:Rb W ⟨g,i,C⟩=D v)(hn:i≠j):(W.setCell ⟨g,j,C⟩ u).cell? ⟨g,i,C⟩=D v:=by
 have h:(⟨g,i,C⟩:RJ)≠⟨g,j,C⟩:=fun e=>hn (by injection e);simpa[go_sem,h] using hc
theorem iq.up {P:jt} {m:fT} {rows:Q (Q Value)} {Ai As:X RJ} {ci cs:Nat} {Si Ss:Q Nat} (h:iq P m rows W Ai ci Si As cs Ss)(hg:fu W W'):iq P m rows W' Ai ci Si As cs Ss:=
 ⟨zj h.box hg,h.ia.fy hg,h.nu.fy hg,h.jj,h.gn,h.fy.trans hg,h.low⟩
def Bn (x:Q fM × Int)(w:U)(r:Ending)(w':U):Prop:=∃ A c S,r=.returned (.tuple #[G A x.1.length c,J Z x.2])/\Has (ph.sl 227) w' [G A x.1.length c] x.1 S/\(∀ b∈S,w.heap.size<=b)/\fu w w'
theorem WX {g:Prop} (f:g:=by
  rw[HPG.out,hst2.out] at hN8
  generalize (w7.setCell _ _)=w8 at hN8 |-
  obtain⟨L8,hS8,_,_⟩:=hN8
  clear q9 qf ql hN7 hS7
  have hcall:=Ew hR 3 ⟨C,0,[],A3,c3,S3⟩ (oU p b f ww i) [] (pI p i) w8 L8 [] i e hS8 rfl II (by rw[HPE.out];exact HS.out) rfl rfl rfl (by rw[HPE.out];exact HM.out) (by simp[oU,zI,fT.gw]) rfl (by rw[HPE.out];exact HE.out) (by show 0<=ww;omega) (by show ww<=jS 4;unfold jS;omega)
  rw[HPG.out] at hcall
  go_upto_region 10 with(first | (go_at_call 204;(with_reducible refine hcall.mono ?_);rintro e9 w9 ⟨rfl,hN9⟩))
  obtain⟨L9,⟨Av9,cv9,Sv9,Lm9,hB9,_⟩,_,_⟩:=hN9
  obtain⟨Ai,ci,Si,As,cs,Ss,hM9,_⟩:=hB9.st
  have hbx9:=hM9.box
  rw[HPG.out] at hbx9
  obtain⟨q0,q1,q2,q3,q4,q5,q6,q7,q8,q9,q10,q11,q12,qf,ql⟩:=nD hbx9
  have HCC:Hid (kS p b f ww=((jc P.E (3+1) ([]++[(pI p i).f]) (pI p i) (oU p b f ww i)).1.pi,(jc P.E (3+1) ([]++[(pI p i).f]) (pI p i) (oU p b f ww i)).1.gO)):=fh (by rw[HC.out,HPE.out];rfl)
  generalize (jc P.E (3+1) ([]++[(pI p i).f]) (pI p i) (oU p b f ww i)).1=MR at hM9 q7 q10 HCC
  have hgF:fu w w9:=hgw1.trans (by have h:=hM9.fy;rwa [HPY.out] at h)
  have hlowS:∀ b∈Si,w.heap.size<=b:=fun b hb=>by have h:=hM9.low.2.1 b hb;rw[HPY.out] at h;exact RG hgw1.size h
  go_quiet (fail)
  go_wp2_with(fail)
  exact Rj (v:=.tuple #[G Ai MR.pi.length ci,J Z MR.gO]) (by simp[Rv,results196,go_sem]) rfl (show Bn (kS p b f ww) w _ _ from by rw[HCC.out];exact⟨Ai,ci,Si,rfl,hM9.ia.fy gF,hlowS,hgF.trans gF⟩)):g:=f
theorem zmO (hx:(zQ.sl 99).R w w.heap.size [G A p.length c] p)(hl:∀ x∈p,x.fL.length<=1099511627776/\x.Expr.length<=1099511627776)(hp:j9 p)(hb:jP b=M)(hf:f<(zq p).length)(hw:0<=ww/\ww<=100) :
  RD prog 196 #[G A p.length c,J Z f,.agg #[J Z b.M2,J Z b.IR,H b.Wz,H b.NE],J Z ww] w (Bn (kS p b f ww) w):=by
 have a9:=hb;unfold jP at a9;rw[Rq] at a9;have ay:=zu.1 a9.1;have bm:=zu.1 a9.2;obtain⟨g,hg⟩:∃ g,(zq p)[f]?=D g:=⟨_,Rn hf⟩
 obtain⟨hE,hS,hM,i,e,x,rfl,af,b8,he,aR,aY,bk⟩:=Nd hp a9.2 hg hw;have aX:=(Rd.1 af).1;have br:=hp.len;have bo:=hp.my;have aA:p.length<=1099511627776:=K9;have HC:=fh (KN (b:=b) (ww:=ww) hg);have bn:(f:Int)<((zq p).length:Int):=K9;have bq:(i:Int)<(p.length:Int):=K9;have aV:(bits .and Z (b.M2 / 2 ^ f) 1 == 1)=lB b f:=KK ay.1 ay.2 f;go_enter func196,ntmps196;go_upto_region 2 with(first | (go_at_call 106;(with_reducible refine(zbI (Ty.up _ hx gF) aA).mono ?_);rintro e9 w1 ⟨A1,c1,S1,rfl,aN,bj,az⟩;obtain⟨gf,of,y1,aM,ao,bu,_⟩:=lJ aN.read hf));obtain rfl:y1=(i:Int):=by rw[hg] at ao;injection ao with h;exact h.symm
 subst aM;obtain⟨gp,op,x',aI,aK,bb,be,rfl,bp,a6,x0,x1,x2,x3,_⟩:=lS hx aX;obtain rfl:x=x':=by rw[af] at a6;injection a6
 have eb:w1.heap[w.heap.size]?=D (F #[J Z b.M2,J Z b.IR,H b.Wz,H b.NE] 71 (0,0)):=zj (Re w _) az;have hgw1:fu w w1:=fu.trans (b:=_) gF az;have x2:=za hgw1 x2;obtain⟨gb,a5⟩:∃ g,w.heap.size=g:=⟨_,rfl⟩
 rw[a5] at eb |-;have bc:=fh a5;have bd:=fh af;have HG:=fh hg;clear a5 ao af a6 hg x0 x1 x3;obtain⟨b0,b1,b2,b3,bf,bl⟩:=iL eb;go_cut [11] from 17 to 33 (fun v wx=>∃ g,v=.pointer (D ⟨g,0,C⟩)/\fu w1 wx/\wx.heap[g]?=D (F #[G (D ⟨gp,op,C⟩) p.length c,J Z b.M2,J Z b.IR,H b.Wz,H b.NE,H (lB b f),J Z ww,J Z 0,J Z (iK p (i:Int)).length,J Z 0,G C 0 0,G C 0 0,H I] 251 (0,0))/\w1.heap.size<=g)
 case first=>
  go_region_held3 (fun w'=>Rb w' ⟨gb,0,C⟩=D (J Z b.M2)/\Rb w' ⟨gb,1,C⟩=D (J Z b.IR)/\Rb w' ⟨gb,2,C⟩=D (H b.Wz)/\Rb w' ⟨gb,3,C⟩=D (H b.NE)/\Rb w' ⟨gp,op+i*4+2,C⟩=D (G aI x.fL.length aK)) ((repeat' apply Rf) <;> (first | ((repeat (first | assumption | with_reducible refine zd ?_ _ _ | with_reducible refine zo ?_ _ | with_reducible refine zc ?_));done) | (simp[go_sem];done))) (fail)
  all_goals go_wp2_with(fail)
  all_goals go_meet
  all_goals exact⟨_,rfl,gF,zj (Re w1 _) gF,Ru _⟩
 case rest=>
  obtain⟨g,rfl,ae,ac,b4⟩:=hcut;clear aV x2;obtain⟨P,hP⟩:∃ P:jt,P=⟨pq p b f ww i,b,D ⟨gp,op,C⟩,c,g,w1⟩:=⟨_,rfl⟩
  have hR:qA P:=by rw[hP];exact⟨Ty.up _ hx hgw1,hl,hE⟩
  have aq:iq P ⟨[],0,0,I⟩ [] wc C 0 [] C 0 []:=by rw[hP];exact⟨ac,Has.nil _ _ _,Has.nil _ _ _,(fun b hb=>by cases hb),⟨II,II⟩,ae,⟨b4,(fun b hb=>by cases hb),(fun b hb=>by cases hb)⟩⟩
  have av:P.g=g:=by rw[hP]
  have au:P.Y=w1:=by rw[hP]
  obtain⟨z0,z1,z2,z3,z4,z5,z6,z7,z8,z9,aF,aG,aH,zf,zl⟩:=nD ac;have HP:=fh hP;have HPG:=fh av;have HPY:=fh au;have aJ:=fh aY;clear hP av au;go_upto_region 4 with(first | (go_at_call 191;(with_reducible refine(zii (Ty.up _ hx ((hgw1.trans ae).trans gF)) aA hl).mono ?_);rintro e9 w4 ⟨A3,c3,S3,rfl,ah,aw,ak⟩;have aT:=zj ac ak;obtain⟨z0,z1,z2,z3,z4,z5,z6,z7,z8,z9,aF,aG,aH,zf,zl⟩:=nD aT));have an:P.g<w4.heap.size:=by rw[HPG.out];exact zl
  obtain⟨gs,am⟩:∃ gs,w4.heap.size=gs:=⟨_,rfl⟩
  have a8:Has ((np 6).sl 253) (w4.alloc (F #[J Z (i:Int),G C 0 0,G A3 (zv p i).length c3,J Z 0,H M,G C 0 0] 253)) [G (D ⟨w4.heap.size,0,C⟩) [[J Z (i:Int),G C 0 0,G A3 (zv p i).length c3,J Z 0,H M,G C 0 0]].length 1] [[J Z (i:Int),G C 0 0,G A3 (zv p i).length c3,J Z 0,H M,G C 0 0]] [w4.heap.size]:=
   ⟨qi (xs:=[[J Z (i:Int),G C 0 0,G A3 (zv p i).length c3,J Z 0,H M,G C 0 0]]) (Re w4 _) ⟨[J Z (i:Int),G C 0 0,G A3 (zv p i).length c3,J Z 0,H M,G C 0 0],[],[],[],II,rfl,⟨rfl,rfl,by intro u hu;simp only[RO,Sq,Tm] at hu;rcases hu with rfl | rfl | rfl | rfl | rfl | rfl <;> rfl,rfl⟩,rfl,rfl⟩ II,II⟩
  have a7:=(aq.up ak).WI (W':=w4.alloc _) (((fu.refl w4).alloc _).only _) a8 (fun b hb=>.inr (by simp only[Rc] at hb;omega));rw[JH _ _ _ _ an,HPG.out] at a7
  have a1:((w4.setCell ⟨g,11,C⟩ (G (D ⟨w4.heap.size,0,C⟩) 1 1)).alloc (F #[J Z (i:Int),G C 0 0,G A3 (zv p i).length c3,J Z 0,H M,G C 0 0] 253)).heap[w4.heap.size]?=D (F #[J Z (i:Int),G C 0 0,G A3 (zv p i).length c3,J Z 0,H M,G C 0 0] 253 (0,0)):=by
   have h:=Re (w4.setCell ⟨g,11,C⟩ (G (D ⟨w4.heap.size,0,C⟩) 1 1)) (F #[J Z (i:Int),G C 0 0,G A3 (zv p i).length c3,J Z 0,H M,G C 0 0] 253);have hz:(w4.setCell ⟨g,11,C⟩ (G (D ⟨w4.heap.size,0,C⟩) 1 1)).heap.size=w4.heap.size:=II;rwa [hz] at h
  rw[R4] at a7;rw[am] at a7 a1 |-;have ag:=fh am;clear am a8;generalize ((w4.setCell _ _).alloc _)=w5 at a7 a1 |-;obtain⟨ai,ar⟩:=a7;have a4:P.g∉S3:=fun hm=>by have h:=aw _ hm;rw[HPG.out] at h;omega
  have aa:gs∉S3:=fun hm=>by have h:=ah.lt _ hm;have h2:=ag.out;omega
  have b5:∀ b∈S3,w.heap.size<=b:=fun b hb=>RG (hgw1.trans ae).size (aw b hb);have aO:=ah.fJ ar (fun b hb hm=>by simp at hm;rw[HPG.out] at a4;exact a4 (hm ▸ hb))
  have ax:nN P ⟨C,0,[],A3,c3,S3⟩ ⟨[],0,0,I⟩ [] (pI p i) w5 (P.g::([]++[gs])++[]):=
   ⟨C,0,[],P.g::([]++[gs]),⟨⟨C,0,[],D ⟨gs,0,C⟩,1,[gs],ai,rfl⟩,Has.nil _ _ _,aO,Has.nil _ _ _,(fun b hb=>by cases hb),(fun b hb=>⟨fun hm=>by
    simp only[RY,RO,Sq,Tm] at hm;rcases hm with h | h
    ·exact a4 (h ▸ hb)
    ·exact aa (h ▸ hb),II⟩),(fun b hb=>by cases hb),(fun b hb=>by cases hb)⟩,rfl⟩
  have bi:∀ b∈(P.g::([]++[gs])++[]),w.heap.size<=b:=fun b hb=>by
   have h1:=(hgw1.trans ae).size;have h2:=ak.size;have h3:=ag.out;have h4:=hgw1.size;simp only[RY,Tl,RO,Sq,Tm] at hb;rcases hb with h | h
   ·rw[h,HPG.out];omega
   ·omega
  have a2:=ai.box;rw[HPG.out] at a2;obtain⟨y0,y1,y2,y3,y4,y5,y6,y7,y8,y9,b9,aE,ba,yf,yl⟩:=nD a2;obtain⟨r0,r1,r2,r3,r4,r5,rf,rl⟩:=mU a1;have aC:P.E.args=((iK p i).length:Int):=by rw[HP.out];rfl
  have aD:P.E.gY=lB b f:=by rw[HP.out];rfl
  rw[aC] at y8;rw[aD] at y5;rw[R4] at aE;have al:gs≠g:=fun e=>by have h:=ag.out;omega
  have aS:(iK p (i:Int)).length<=4:=by rw[<-b8];exact aR
  have aZ:=aJ.out;have bt:Rg Z (((zv p i).length:Int)-((iK p i).length:Int))=((zv p i).length:Int)-((iK p i).length:Int):=iw;have HPE:=fh (show P.E=pq p b f ww i by rw[HP.out]);clear aC aD z0 z1 z2 z3 z4 z5 z6 z7 z8 z9 aF aG aH zf zl ac a1 ah ai ar aq a2;go_region_held3 (fun w'=>Rb w' ⟨g,11,C⟩=D (G (D ⟨gs,0,C⟩) 1 1)/\Rb w' ⟨g,8,C⟩=D (J Z (iK p i).length)/\Rb w' ⟨gs,2,C⟩=D (G A3 (zv p i).length c3)) ((repeat' apply Rf) <;> ((repeat (first | with_reducible assumption | with_reducible refine zc ?_ | with_reducible refine N2 ?_ qo | with_reducible refine yq ?_ al));done)) (fail)
  all_goals go_upto_region 5 with(fail)
  have aj:=((gg.refl ax).num (m':=⟨[],0,((zv p i).length:Int)-((iK p i).length:Int),I⟩) (i:=7) (v:=J Z (((zv p i).length:Int)-((iK p i).length:Int))) rfl (fun _ _ _ _ _ _ _ _ _=>rfl)).fy ((fu.refl _).drew);rw[HPG.out] at aj;generalize ((w5.setCell _ _).drew)=w6 at aj |-;obtain⟨L6,aQ,_,_⟩:=aj;obtain⟨Av,cv,Sv,Lm,ab,aP⟩:=aQ;obtain⟨q0,q1,q2,q5,q6,q7,q8,q9,q12,qf,ql⟩:=ab.st.ir;rw[HPG.out] at q5 ql;rw[HPE.out] at q5;clear y0 y1 y2 y3 y4 y5 y6 y7 y8 y9 b9 aE ba yf yl r0 r1 r2 r3 r4 r5 rf rl q0 q1 q2 q6 q7 q8 q9 q12 qf ax;have b7:fE ww:=⟨K9,K9⟩
  have aW:fE (i:Int):=⟨K9,K9⟩
  have bg:fE 13:=⟨K9,K9⟩
  have bh:fE 15:=⟨K9,K9⟩
  have aL:fE 0:=⟨K9,K9⟩
  have b6:(zr.sl 3).R w6 w6.heap.size [G C ([]:Q Int).length 0] ([]:Q Int):=(Has.nil zr 3 w6).read;have HM:=fh hM;have HS:=fh hS;have HE:=fh he;clear hM hS he;obtain⟨fb,a3⟩:∃ fb,lB b f=fb:=⟨_,rfl⟩
  have ap:=fh a3;have aB:(pq p b f ww i).gY=fb:=a3;rw[aB] at q5;clear a3 aB
  have bs:Hid (zI P.E ⟨[],0,((zv p i).length:Int)-((iK p i).length:Int),I⟩ (if fb=M then 13 else 15) ww i []=(oU p b f ww i).gw 0):=fh (by
   rw[HPE.out,<-ap.out]
   rfl)
  have hst2:Hid ((zI P.E ⟨[],0,((zv p i).length:Int)-((iK p i).length:Int),I⟩ (if fb=M then 13 else 15) ww i []).gw ww=oU p b f ww i):=fh (by
   rw[HPE.out,<-ap.out]
   rfl)
  obtain⟨code,a0⟩:∃ code:Int,(if fb=M then 13 else 15)=code:=⟨_,rfl⟩
  rw[a0] at hst2;have aU:fE code:=by rw[<-a0];split <;> exact⟨K9,K9⟩
  have ad:=ze6 (code:=code) (arg:=ww) (line:=(i:Int)) (io:=[]) (Ac:=C) (cc:=0) ab.st b6 II II aU b7 aW aL;rw[HPG.out] at ad;simp only[RR] at ad;cases fb with
  | true=>
   obtain rfl:code=13:=a0.symm;go_upto_region 8 with(first | (go_at_call 203;(with_reducible refine ad.mono ?_);rintro e9 w7 ⟨rfl,hN7⟩));obtain⟨L7,hS7,_,_⟩:=ab.next hN7;obtain⟨q0,q1,q2,q5,q6,q7,q8,q9,q12,qf,ql⟩:=(show jl P _ _ w7 _ from(Tf (Tf (Tf (Tf hS7)))).1.st).ir;rw[HPG.out] at q9 qf ql;clear q0 q1 q2 q5 q6 q7 q8 q12;go_upto_region 9 with(fail);have hN8:=(gg.refl hS7).num (m':=(zI P.E ⟨[],0,((zv p i).length:Int)-((iK p i).length:Int),I⟩ 13 ww i []).gw ww) (i:=9) (v:=J Z ww) rfl (fun _ _ _ _ _ _ _ _ _=>rfl);exact WX
  | false=>
   obtain rfl:code=15:=a0.symm;go_upto_region 8 with(first | (go_at_call 203;(with_reducible refine ad.mono ?_);rintro e9 w7 ⟨rfl,hN7⟩));obtain⟨L7,hS7,_,_⟩:=ab.next hN7;obtain⟨q0,q1,q2,q5,q6,q7,q8,q9,q12,qf,ql⟩:=(show jl P _ _ w7 _ from(Tf (Tf (Tf (Tf hS7)))).1.st).ir;rw[HPG.out] at q9 qf ql;clear q0 q1 q2 q5 q6 q7 q8 q12;go_upto_region 9 with(fail);have hN8:=(gg.refl hS7).num (m':=(zI P.E ⟨[],0,((zv p i).length:Int)-((iK p i).length:Int),I⟩ 15 ww i []).gw ww) (i:=9) (v:=J Z ww) rfl (fun _ _ _ _ _ _ _ _ _=>rfl);exact WX
def Ih (xs:Q fM)(w:U)(r:Ending)(w':U):Prop:=∃ A c S,r=.returned (G A xs.length c)/\Has (ph.sl 227) w' [G A xs.length c] xs S/\(∀ b∈S,w.heap.size<=b)/\fu w w'
theorem Mc (hF:mI p):∀ y∈p.map jY,y.fL.length<=1099511627776/\y.Expr.length<=1099511627776:=by
 intro y hy;obtain⟨i,hi⟩:=TG hy;obtain⟨x,hx,rfl⟩:=tX hi;have ha:=hF.c.args i x hx;refine⟨by show x.fL.length<=_;omega,?_⟩
 have a0:x.Expr.length<=20/\(0<x.Expr.length->(rp x.Expr).length<=20):=by
  by_cases he:rB x.li=M
  ·have h1:=(sE (hF.line i x hx)).2.2.2
   unfold rG at h1;rw[Rs he] at h1;obtain⟨e,g1,g2,g3,g4⟩:=zm h1;obtain⟨e',w1,w2,w3⟩:=e.ig g1;refine⟨g3,fun _=>?_⟩;rw[g4,<-w2,e'.gj];rw[g2,e.gj] at g3;omega
  ·have h1:=(sE (hF.line i x hx)).2.2.2
   unfold rG at h1;rw[Ro he] at h1;simp only[RC] at h1;exact⟨K9,fun h=>K9⟩
 show (if 0<x.Expr.length then rp x.Expr else x.Expr).length<=_;split
 ·rename_i h
  have:=a0.2 h;omega
 ·omega
theorem uK {g:Prop} (f:g:=by
  rintro e w6 ⟨A6,c6,S6,rfl,hH6,hS6,hg6⟩
  go_wp2_with(fail)
  exact Rj (v:=G A6 R2.1.length c6) (by simp[Rv,results166,go_sem]) rfl (show Ih _ w _ _ from by rw[HC.out];exact⟨A6,c6,S6,rfl,hH6.fy gF,fun b hb=>RG (hgT.trans ((fu.trans (b:=_) gF hg5).trans gF)).size (hS6 b hb),(hgT.trans (fu.trans (b:=_) gF hg5)).trans ((fu.trans (b:=_) gF hg6).trans gF)⟩)):g:=f
theorem zvZ (hx:(zQ.sl 99).R w w.heap.size [G A p.length c] p)(hs:∀ x∈p,x.fL.length<=1099511627776/\x.Expr.length<=1099511627776)(hp:zx p=M)(hb:jP b=M)(hf:f<(zq p).length) :
  RD prog 166 #[G A p.length c,J Z f,.agg #[J Z b.M2,J Z b.IR,H b.Wz,H b.NE]] w (Ih (ki p b f) w):=by
 have hF:=qB hp;have al:=hF.len;have ap:=hF.my;have hl:p.length<=1099511627776:=K9;have aj:fP b.IR 0 3=M:=by unfold jP at hb;rw[Rq] at hb;exact hb.2
 have ao:¬ ((f:Int)<0):=K9;have an:¬ ((f:Int)≥((zq p).length:Int)):=K9;have ak:¬ (((zq p).length:Int)<=(f:Int)):=K9;have HP:=fh hp;have HB:=fh hb
 -- what compiling comes to at a program
 have a6:∀(q:Q fw) (hq:j9 q) (a5:f<(zq q).length) (ab:∀ x∈q,x.fL.length<=1099511627776/\x.Expr.length<=1099511627776),∃ R1 R2,kS q b f 0=R1/\kS q b f R1.2=R2/\
   (∀(W:U) (A:X RJ) (c:Nat),(zQ.sl 99).R W W.heap.size [G A q.length c] q->RD prog 196 #[G A q.length c,J Z f,.agg #[J Z b.M2,J Z b.IR,H b.Wz,H b.NE],J Z 0] W (Bn R1 W))/\
   (∀(W:U) (A:X RJ) (c:Nat),(zQ.sl 99).R W W.heap.size [G A q.length c] q->RD prog 196 #[G A q.length c,J Z f,.agg #[J Z b.M2,J Z b.IR,H b.Wz,H b.NE],J Z R1.2] W (Bn R2 W)):=by
  intro q hq a5 ab;obtain⟨_,_,_,h4,h5⟩:=zH (ww:=0) hq aj a5 ⟨K9,K9⟩;exact⟨_,_,rfl,rfl,fun W A c h=>zmO h ab hq hb a5 ⟨K9,K9⟩,fun W A c h=>zmO h ab hq hb a5 ⟨h4,K9⟩⟩
 obtain⟨bF,bI,ae,bS⟩:=b;cases ae with
 | false=>
  obtain⟨R1,R2,e1,e2,c1,c2⟩:=a6 p hF.c hf hs;have HC:Hid (ki p ⟨bF,bI,I,bS⟩ f=R2.1):=fh (by unfold ki;simp only;rw[Ro II,e1,e2]);have C1:=fh c1;have C2:=fh c2;have BO:=fun w=>ye (b:=⟨bF,bI,I,bS⟩) (w:=w);have a7:=fh BO;clear e1 e2 c1 c2 a6 hp hb BO;go_enter func166,ntmps166;go_wp2_with(first | (go_at_call 102;(with_reducible refine(zaK (Ty.up _ hx gF) hl hs).mono ?_);rw[HP.out];rintro e w1 ⟨rfl,a2⟩;obtain⟨b0,b1,b2,b3,bf,bl⟩:=iL (zj (Re w (F #[J Z bF,J Z bI,H I,H bS] 71)) a2)) | (go_at_call 104;(with_reducible refine(a7.out _).mono ?_);rw[HB.out];rintro e w2 ⟨rfl,a0⟩;have hgT:fu w w2:=(fu.trans (b:=_) gF a2).trans (fu.trans (b:=_) gF a0);have b0:=za a0 b0;have b1:=za a0 b1;have b2:=za a0 b2;have b3:=za a0 b3) | (go_at_call 106;(with_reducible refine(zbI (Ty.up _ hx (hgT.trans gF)) hl).mono ?_);rintro e w3 ⟨A3,c3,S3,rfl,af,ah,a1⟩;have hgT:=hgT.trans (fu.trans (b:=_) gF a1);have b0:=za a1 b0;have b1:=za a1 b1;have b2:=za a1 b2;have b3:=za a1 b3));refine(C1.out _ _ _ (Ty.up _ hx (hgT.trans gF))).mono ?_;rintro e w5 ⟨A5,c5,S5,rfl,ag,ai,hg5⟩;have b0:=za hg5 b0;have b1:=za hg5 b1;have b2:=za hg5 b2;have b3:=za hg5 b3;go_wp2_with(fail);refine(C2.out _ _ _ (Ty.up _ (Ty.up _ hx (hgT.trans gF)) (fu.trans (b:=_) gF hg5))).mono ?_;exact uK
 | true=>
  have a4:qE p=p.map jY:=by unfold qE;rw[Rs hp]
  have a8:=hF.fold;have a9:f<(zq (p.map jY)).length:=by rw[xW];exact hf
  have aa:=Mc hF;generalize p.map jY=q at a4 a8 a9 aa;obtain⟨R1,R2,e1,e2,c1,c2⟩:=a6 q a8 a9 aa;have HC:Hid (ki p ⟨bF,bI,M,bS⟩ f=R2.1):=fh (by unfold ki;simp only[TI];rw[a4,e1,e2]);have ad:=fh a4;clear a4 a8 a9 aa;have C1:=fh c1;have C2:=fh c2;have BO:=fun w=>ye (b:=⟨bF,bI,M,bS⟩) (w:=w);have a7:=fh BO;clear e1 e2 c1 c2 a6 hp hb BO;go_enter func166,ntmps166;go_wp2_with(first | (go_at_call 102;(with_reducible refine(zaK (Ty.up _ hx gF) hl hs).mono ?_);rw[HP.out];rintro e w1 ⟨rfl,a2⟩;obtain⟨b0,b1,b2,b3,bf,bl⟩:=iL (zj (Re w (F #[J Z bF,J Z bI,H M,H bS] 71)) a2)) | (go_at_call 104;(with_reducible refine(a7.out _).mono ?_);rw[HB.out];rintro e w2 ⟨rfl,a0⟩;have hgT:fu w w2:=(fu.trans (b:=_) gF a2).trans (fu.trans (b:=_) gF a0);have b0:=za a0 b0;have b1:=za a0 b1;have b2:=za a0 b2;have b3:=za a0 b3) | (go_at_call 106;(with_reducible refine(zbI (Ty.up _ hx (hgT.trans gF)) hl).mono ?_);rintro e w3 ⟨A3,c3,S3,rfl,af,ah,a1⟩;have hgT:=hgT.trans (fu.trans (b:=_) gF a1);have b0:=za a1 b0;have b1:=za a1 b1;have b2:=za a1 b2;have b3:=za a1 b3) | (go_at_call 195;(with_reducible refine(zqU (Ty.up _ hx (hgT.trans gF)) hl hs).mono ?_);rw[ad.out];rintro e w4 ⟨A4,c4,S4,rfl,ac,am,a3⟩;have hgT:=hgT.trans (fu.trans (b:=_) gF a3);have b0:=za a3 b0;have b1:=za a3 b1;have b2:=za a3 b2;have b3:=za a3 b3));refine(C1.out _ _ _ (Ty.up _ ac.read gF)).mono ?_;rintro e w5 ⟨A5,c5,S5,rfl,ag,ai,hg5⟩;have b0:=za hg5 b0;have b1:=za hg5 b1;have b2:=za hg5 b2;have b3:=za hg5 b3;go_wp2_with(fail);refine(C2.out _ _ _ (Ty.up _ (Ty.up _ ac.read gF) (fu.trans (b:=_) gF hg5))).mono ?_;exact uK
theorem ztl (hf:f<=1000):RD prog 165 #[.agg #[J Z b.M2,J Z b.IR,H b.Wz,H b.NE],J Z f,J Z image] w fun e w'=>e=.returned (H (ny b f image))/\fu w w':=by
 obtain⟨bF,bI,a0,bS⟩:=b;have hm:=AV f K9;cases bS with
 | true=>
  have HI:Hid (ny ⟨bF,bI,a0,M⟩ f image=((f:Int) % 2 == image)):=fh (by unfold ny;simp only[TI];cases h:decide ((f:Int) % 2=image) with
   | true=>rw[UD] at h;rw[h];simp
   | false=>rw[SJ] at h;exact(Rm.2 h).symm)
  go_enter func165,ntmps165;go_wp2_with(fail);go_ret;exact⟨zp HI.out.symm,gG⟩
 | false=>
  have HI:Hid (ny ⟨bF,bI,a0,I⟩ f image=(image == 0)):=fh (by unfold ny;simp only[Bool.false_eq_true,if_false];cases h:decide (image=0) with
   | true=>rw[UD] at h;rw[h];rfl
   | false=>rw[SJ] at h;exact(Rm.2 h).symm)
  go_enter func165,ntmps165;go_wp2_with(fail);go_ret;exact⟨zp HI.out.symm,gG⟩
def nM (lo:Nat)(W:U)(S:Q Nat)(r:Q Value)(x:fK):Prop:=∃ A0 c0 Sc,r = [J Z x.us,J Z x.lw.Op.Code,J Z x.lw.Op.Wv,J Z x.lw.fG,H x.lw.kw,G A0 x.lw.fB.length c0,J Z x.lw.fF,H x.lw.fD]/\
 (zr.sl 3).O W [G A0 x.lw.fB.length c0] x.lw.fB Sc/\(∀ b∈Sc,b∉S/\lo<=b)/\fE x.us/\fE x.lw.Op.Code/\fE x.lw.Op.Wv/\fE x.lw.fG/\fE x.lw.fF
theorem nM.fJ {x:fK} (h:nM lo W S r x)(ho:fx S W W')(hS:∀ b∈S',b∈S∨W.heap.size<=b):nM lo W' S' r x:=by
 obtain⟨A0,c0,Sc,h1,h2,h3,h4⟩:=h;have a0:=Ty.iY _ h2;refine⟨A0,c0,Sc,h1,Ty.gD _ h2 (fun k hk=>ho.block k (a0 k hk) (h3 k hk).1),fun b hb=>⟨fun hm=>?_,(h3 b hb).2⟩,h4⟩;rcases hS b hm with h | h
 ·exact(h3 b hb).1 h
 ·have:=a0 b hb;omega
def gU (lo:Nat)(W:U)(S:Q Nat)(rs:Q (Q Value))(xs:Q fK):Prop:=rs.length=xs.length/\∀(i:Nat)(r:Q Value)(x:fK),rs[i]?=D r->xs[i]?=D x->nM lo W S r x
theorem gU.nil (lo:Nat)(W:U)(S:Q Nat):gU lo W S [] []:=⟨rfl,fun i r x h=>by simp at h⟩
theorem gU.fJ {lo:Nat}{W W':U}{S S':Q Nat}{rs:Q (Q Value)}{xs:Q fK}(h:gU lo W S rs xs)(ho:fx S W W')(hS:∀ b∈S',b∈S∨W.heap.size<=b):gU lo W' S' rs xs:=⟨h.1,fun i r x h1 h2=>(h.2 i r x h1 h2).fJ ho hS⟩
theorem gU.fy (h:gU lo W S rs xs)(hg:fu W W'):gU lo W' S rs xs:=h.fJ (hg.only _) (fun _ hb=>.inl hb)
theorem gU.snoc {x:fK} (h:gU lo W S rs xs)(hr:nM lo W S r x):gU lo W S (rs++[r]) (xs++[x]):=by
 refine⟨by simp[h.1],fun i r' x' h1 h2=>?_⟩;by_cases hi:i<rs.length
 ·rw[SK hi] at h1
  rw[SK (by rw[<-h.1];exact hi)] at h2;exact h.2 i r' x' h1 h2
 ·have hl:=(Rd.1 h1).1
  simp only[Rh,RA,RR] at hl;have a0:i=rs.length:=K9;subst a0;rw[Sd (Ru _),St] at h1;rw[h.1,Sd (Ru _),St] at h2;simp only[RW,RT] at h1 h2;subst h1;subst h2;exact hr
theorem gU.read {lo:Nat}{W:U}{S:Q Nat}{rs:Q (Q Value)}{xs:Q fK}{A:X RJ}{n c:Nat}(h:gU lo W S rs xs)(hH:Has ((np 8).sl 229) W [G A n c] rs S)(hn:n=xs.length):(uc.sl 229).R W W.heap.size [G A xs.length c] xs:=by
 obtain⟨A',c',h1,h2,h3,h4,h5⟩:=hH.read;injection h1 with h1 _
 injection h1 with e1 e2 e3
 subst e1;subst e3;refine⟨A,c,rfl,by rw[<-h.1];exact h2,h3,h4,fun hp=>?_⟩;obtain⟨g,a3,hA,a1,a0⟩:=h5 (by rw[h.1];exact hp);refine⟨g,a3,hA,a1,fun i x hx=>?_⟩;have a2:=(Rd.1 hx).1;have hr:rs[i]?=D (rs[i]'(by rw[h.1];exact a2)):=Rn _;obtain⟨ec,k1,k2⟩:=a0 i _ hr;obtain⟨k1,_,_⟩:=k1;obtain⟨A0,c0,Sc,p1,p2,_,p3,p4,p5,p6,p7⟩:=h.2 i _ x hr hx;refine⟨ec,?_,k2⟩;rw[k1,p1];exact Mz (x:=x) A0 c0 p3 p4 p5 p6 (Ty.read _ p2) p7
theorem gU.only {L:Q Nat} (h:gU lo W S rs xs)(ho:fx L W W')(hL:∀ b∈L,b<lo):gU lo W' S rs xs:=by
 refine⟨h.1,fun i r x h1 h2=>?_⟩;obtain⟨A0,c0,Sc,k1,k2,k3,k4⟩:=h.2 i r x h1 h2;exact⟨A0,c0,Sc,k1,Ty.gD _ k2 (fun k hk=>ho.block k (Ty.iY _ k2 k hk) (fun hm=>by have:=hL k hm;have:=(k3 k hk).2;omega)),k3,k4⟩
theorem Mu (h:l[k]?=D x)(a:Int):mr (l.drop k) a=a::mr (l.drop (k+1)) (a+zS x.Op.Code):=by
 obtain⟨h1,rfl⟩:=Rd.1 h;rw[Rw h1];rfl
theorem OV (h:l[k]?=D x)(a:Int):mw (l.drop k) a=mw (l.drop (k+1)) (a+zS x.Op.Code):=by
 obtain⟨h1,rfl⟩:=Rd.1 h;rw[Rw h1];rfl
theorem Lu (h:l[k]?=D x):rm st (l.drop k) k=mN st k x::rm st (l.drop (k+1)) (k+1):=by
 obtain⟨h1,rfl⟩:=Rd.1 h;rw[Rw h1];rfl
theorem Fo:∀(l:Q fM)(a:Int),(mr l a).length=l.length+1
 | [],_=>rfl
 | x::r,a=>by simp[mr,Fo r]
theorem FT:∀(l:Q fM)(a:Int),∀ v∈mr l a,a<=v/\v<=a+5*(l.length:Int)
 | [],a,v,h=>by simp only[mr,Rc] at h;subst h;simp
 | x::r,a,v,h=>by
  simp only[mr] at h;have ho:=AN x.Op.Code;rcases RO.1 h with rfl | h
  ·simp only[RA];omega
  ·have:=FT r _ v h
   simp only[RA];omega
theorem gU.push {Y:U} {x:fK} (h:gU lo Y S rs xs)(hr:nM lo Y S r x)(hg:fu Y Wa)(hon:fx S Wa W')(hS:∀ b∈S',b∈S∨Wa.heap.size<=b):gU lo W' S' (rs++[r]) (xs++[x]):=((h.snoc hr).fy hg).fJ hon hS
theorem E7 {b:U} (hO:fx S0 a b)(hS:∀ x∈S,x∈S0∨a.heap.size<=x)(hg:fu b Wa)(hon:fx S Wa W'):fx S0 a W':=hO.then ((hg.only S).trans hon) hS
theorem FR {b:U} (hO:fx S0 a b)(hS:∀ x∈S,x∈S0∨a.heap.size<=x)(hg:fu b Wa)(hS':∀ x∈S',x∈S∨Wa.heap.size<=x):∀ x∈S',x∈S0∨a.heap.size<=x:=fun x hx=>(hS' x hx).elim (hS x) (fun h=>.inr (RG (RG hO.size hg.size) h))
theorem Jo (w:U)(B:Nat){v:Int}(h:fE v):zr.R w B [J Z v] v:=⟨rfl,h.1,h.2⟩
theorem Ko {ag:Nat} {sa s1:Int} (hj:x.Op.Code=10∨x.Op.Code=11)(ha:x.Op.Wv=(ag:Int))(h0:st[k]?=D sk)(h1:st[ag]?=D sa)(h2:st[k+1]?=D s1):mN st k x=⟨sk,⟨⟨x.Op.Code,sa-s1⟩,x.fG,x.kw,x.fB,x.fF,x.fD⟩⟩:=by
 unfold mN;rw[Rs hj,ha,Ry];simp only[Sf,h0,h1,h2,Te]
theorem Kn (hj:¬ (x.Op.Code=10∨x.Op.Code=11))(h0:st[k]?=D sk):mN st k x=⟨sk,⟨⟨x.Op.Code,x.Op.Wv⟩,x.fG,x.kw,x.fB,x.fF,x.fD⟩⟩:=by
 unfold mN;rw[Ro hj];simp only[Sf,h0,Te]
theorem Oz {xs:Q Int} (h:Has (zr.sl e) W [G A n c] xs S)(h0:0<xs.length):∃ g,A=D ⟨g,0,C⟩/\g∈S/\g<W.heap.size/\∀(k:Nat)(v:Int),xs[k]?=D v->Rb W ⟨g,k,C⟩=D (J Z v)/\fE v:=by
 obtain⟨v0,a3⟩:∃ v,xs[0]?=D v:=⟨_,Rn h0⟩
 obtain⟨g,_,_,rfl,a1,a2,_⟩:=qh h.1 h.2 a3;refine⟨g,rfl,a1,a2,fun k v hk=>?_⟩;obtain⟨g',el,a4,hA,_,_,_,_,_,hO,_,hc,_⟩:=qh h.1 h.2 hk;injection hA with hA
 injection hA with hA
 subst hA;obtain⟨rfl,b1,b2,_⟩:=hO;have a0:=hc 0 _ rfl;rw[show k*zr.size+0=k from by show k*1+0=k;omega] at a0;exact⟨a0,b1,b2⟩
theorem MF:(prog.info? 229).map (fun i=>(i.zero,i.size,i.bytes))=D (D (.agg #[J Z 0,J Z 0,J Z 0,J Z 0,H I,G C 0 0,J Z 0,H I]),8,80):=Fs
theorem Ht:hU prog 182 229 (np 8) 80:=by
 obtain⟨i0,hi,a0,a1,a2⟩:=Tn MF;exact⟨underlying182,⟨i0,_,hi,a0,a1,a2,rfl⟩,qo⟩
def BA (xs:Q fK)(w:U)(r:Ending)(w':U):Prop:=∃ A c rs S,r=.returned (G A xs.length c)/\Has ((np 8).sl 229) w' [G A xs.length c] rs S/\gU w.heap.size w' S rs xs/\(∀ b∈S,w.heap.size<=b)/\fu w w'
theorem Kp {a:Int} (h:f<n)(hi:ny b f image=M):mX p b image (n-f) f a=lQ (ki p b f) a++mX p b image (n-(f+1)) (f+1) (mw (ki p b f) a):=by
 rw[show n-f=n-(f+1)+1 from K9];show (if _ then _ else _)=_;rw[Rs hi]
theorem Lt {a:Int} (h:f<n)(hi:ny b f image=I):mX p b image (n-f) f a=mX p b image (n-(f+1)) (f+1) a:=by
 rw[show n-f=n-(f+1)+1 from K9];show (if _ then _ else _)=_;rw[Ro (by rw[hi];simp)]
theorem WU {g:Prop} (f:g:=by
  clear hj
  go_upto_region 22 with(fail)
  refine zX (fun w'=>Rb w' ⟨g14,1,C⟩=D (J Z (ag:Int))/\Rb w' ⟨gt,ag,C⟩=D (J Z sa)/\Rb w' ⟨gt,k+1,C⟩=D (J Z s1)) 14 Fs (Rf (zc o1) (Rf (zc ta) (zc t1))) (fun hH=>?_)
  have hdr:fu Y Y.drew:=(fu.refl _).drew
  clear o1 ta t1
  generalize Y.drew=wx at hdr hH |-
  obtain⟨o1,ta,t1⟩:=id hH
  have ofx:∀ j,Rx wx ⟨g14,j,C⟩=I:=fun j=>((hdr.only []).frozen ol II j).trans (of j)
  have olx:g14<wx.heap.size:=Ri ol hdr.size
  refine .tk 0 [14] hH ?_
  refine .tk 1 [14] hH ?_
  refine .tk 2 [14] hH ?_
  refine .tk 3 [14] hH ?_
  refine .tk 4 [14] hH ?_
  refine .tk 5 [14] hH ?_
  refine .tk 6 [14] hH ?_
  refine .tk 7 [14] hH ?_
  refine .tk 8 [14] hH ?_
  refine .tk 9 [14] hH ?_
  refine .tk 10 [14] hH ?_
  refine .tk 11 [14] hH ?_
  refine .tk 12 [13,14] hH ?_
  refine .tk 13 [14] hH ?_
  refine fA.last Fs rfl Fs (fun K hK=>?_)
  go_simp
  refine hK.out _ _ ?_
  clear hK
  try simp only[lay]
  go_upto_region 23 with(fail)
  have eb2:=(jd (i:=1) (v:=J Z (sa-s1)) (cur':=#[J Z x.Op.Code,J Z (sa-s1),J Z x.fG,H x.kw,G A20 x.fB.length c20,J Z x.fF,H x.fD]) (zj eb hdr) rfl)
  have hgY:fu wr (wx.setCell ⟨g14,1,C⟩ (J Z (sa-s1))):=(hgYa.trans hdr).setRow (p:=⟨g14,1,C⟩) (Ua HG14.out) _
  generalize (wx.setCell _ _)=Y2 at eb2 hgY |-
  obtain⟨o0,o1,o2,o3,o4,o5,o6,of,ol⟩:=zK eb2
  have tk:=za hgY tk
  have hgtY:gt<Y2.heap.size:=Ri hgtw hgY.size
  have hHY:=hR7.out.fy hgY
  have hPY:=hPR.out.fy hgY
  go_region_held3 (fun w'=>Rb w' ⟨g14,0,C⟩=D (J Z x.Op.Code)/\Rb w' ⟨g14,1,C⟩=D (J Z (sa-s1))/\Rb w' ⟨g14,2,C⟩=D (J Z x.fG)/\Rb w' ⟨g14,3,C⟩=D (H x.kw)/\Rb w' ⟨g14,4,C⟩=D (G A20 x.fB.length c20)/\Rb w' ⟨g14,5,C⟩=D (J Z x.fF)/\Rb w' ⟨g14,6,C⟩=D (H x.fD)/\Rb w' ⟨gt,k,C⟩=D (J Z sk)) ((repeat' apply Rf) <;> ((repeat (first | with_reducible assumption | with_reducible refine zd ?_ _ _ | with_reducible refine zo ?_ _ | with_reducible refine zc ?_ | with_reducible refine mC ?_ _));done)) (first | (refine pY (L:=rs.length+1) rfl (.tmp 104) (.tmp 111) Ht (Df 8) (hHY.fy gF) (W1:=w) (B:=0) (ec:=[J Z sk,J Z x.Op.Code,J Z (sa-s1),J Z x.fG,H x.kw,G A20 x.fB.length c20,J Z x.fF,H x.fD]) (y:=[J Z sk,J Z x.Op.Code,J Z (sa-s1),J Z x.fG,H x.kw,G A20 x.fB.length c20,J Z x.fF,H x.fD]) ⟨rfl,rfl,by intro u hu;simp only[RO,Sq,Tm] at hu;rcases hu with rfl | rfl | rfl | rfl | rfl | rfl | rfl | rfl <;> rfl⟩ rfl rfl rfl (by intro j u hu;simpa[go_sem] using hu) rfl K9 K9 ?_;intro A8 c8 W8 S8 hon hH8 hS8;have o0:=(hon.cell (g:=g14) (Ri ol (fu.size gF)) hg14S _).trans (za gF o0);have o1:=(hon.cell (g:=g14) (Ri ol (fu.size gF)) hg14S _).trans (za gF o1);have o2:=(hon.cell (g:=g14) (Ri ol (fu.size gF)) hg14S _).trans (za gF o2);have o3:=(hon.cell (g:=g14) (Ri ol (fu.size gF)) hg14S _).trans (za gF o3);have o4:=(hon.cell (g:=g14) (Ri ol (fu.size gF)) hg14S _).trans (za gF o4);have o5:=(hon.cell (g:=g14) (Ri ol (fu.size gF)) hg14S _).trans (za gF o5);have o6:=(hon.cell (g:=g14) (Ri ol (fu.size gF)) hg14S _).trans (za gF o6);have tk:=(hon.cell (g:=gt) (Ri hgtY (fu.size gF)) hgtS _).trans (za gF tk)))
  all_goals go_wp2_with(fail)
  all_goals go_roundw
  case measure=>exact gM
  case rel=>
   have hrow:nM w.heap.size Y2 S7 [J Z sk,J Z x.Op.Code,J Z (sa-s1),J Z x.fG,H x.kw,G A20 x.fB.length c20,J Z x.fF,H x.fD] (mN ST k x):=by
    rw[hPL.out]
    exact⟨A20,c20,Sc,rfl,Ty.jh _ hchO hgY,fun b hb=>hScS b hb,hskI,hxcI,hvI,hxlI,hxdI⟩
   exact⟨k+1,rs++[[J Z sk,J Z x.Op.Code,J Z (sa-s1),J Z x.fG,H x.kw,G A20 x.fB.length c20,J Z x.fF,H x.fD]],acc++[mN ST k x],A8,c8,S8,by rw[Rh];rfl,Ar,K9,fh (E7 hO7.out hS7.out (fu.trans hgY gF) hon),fh (FR hO7.out hS7.out (fu.trans hgY gF) hS8),fh (by rw[Rh];exact hH8),fh (gU.push hPY hrow gF hon hS8),fh (by rw[<-hA4.out,HAT.out,RU];rfl),by rw[Rh,R4];omega⟩):g:=f
theorem uz {g:Prop} (f:g:=by
  go_enter func124,ntmps124
  go_wp2_with(first | (go_at_call 102;(with_reducible refine(zaK (Ty.up _ hx gF) hll hs).mono ?_);rw[HPB.out];rintro e w1 ⟨rfl,hg1⟩;obtain⟨b0,b1,b2,b3,bf,bl⟩:=iL (zj (Re w (F #[J Z bF,J Z bI,H bFo,H bS] 71)) (fu.trans (b:=_) gF hg1))) | (go_at_call 104;(with_reducible refine(HBO.out _).mono ?_);rw[HBB.out];rintro e w2 ⟨rfl,hg2⟩) | (go_at_call 43;(with_reducible refine(gW _ _ _ _).mono ?_);rw[HIB.out];rintro e w3 ⟨rfl,rfl⟩))
  exact Rj (v:=G (D ⟨w.heap.size+1,0,C⟩) 0 0) (by simp[Rv,results124,go_sem]) rfl (show BA _ w _ _ from by rw[HE.out];exact⟨_,0,[],[w.heap.size+1],rfl,Has.Wy (np 8) (g:=w.heap.size+1) (zj (EOUT.out) (hg1.trans hg2)),gU.nil _ _ _,fun b hb=>by simp only[Rc] at hb;omega,(fu.trans (b:=_) gF (hg1.trans hg2))⟩)):g:=f
theorem zlE (hx:(zQ.sl 99).R w w.heap.size [G A p.length c] p)(hll:p.length<=1099511627776)(hs:∀ x∈p,x.fL.length<=1099511627776/\x.Expr.length<=1099511627776) :
  RD prog 124 #[G A p.length c,.agg #[J Z b.M2,J Z b.IR,H b.Wz,H b.NE],J Z image] w (BA (jZ p b image) w):=by
 obtain⟨bF,bI,bFo,bS⟩:=b;have BO:=fun w=>ye (b:=⟨bF,bI,bFo,bS⟩) (w:=w);have HBO:=fh BO;clear BO;have EOUT:Hid (((w.alloc (F #[J Z bF,J Z bI,H bFo,H bS] 71)).alloc (F #[] 229)).heap[w.heap.size+1]?=D (F #[] 229 (0,0))):=fh (by have h:=Re (w.alloc (F #[J Z bF,J Z bI,H bFo,H bS] 71)) (F #[] 229);rw[Rz] at h;exact h);rcases RX (zx p) with a6 | a6
 rotate_left
 ·have HE:Hid (jZ p ⟨bF,bI,bFo,bS⟩ image = []):=fh (by unfold jZ;rw[Ro (fun h=>by rw[a6] at h;cases h.1)])
  have HPB:=fh a6;have HBB:=fh (rfl:jP ⟨bF,bI,bFo,bS⟩=jP ⟨bF,bI,bFo,bS⟩);have HIB:=fh (rfl:fP image 0 1=fP image 0 1);clear a6;go_enter func124,ntmps124;go_wp2_with(first | (go_at_call 102;(with_reducible refine(zaK (Ty.up _ hx gF) hll hs).mono ?_);rw[HPB.out];rintro e w1 ⟨rfl,hg1⟩;obtain⟨b0,b1,b2,b3,bf,bl⟩:=iL (zj (Re w (F #[J Z bF,J Z bI,H bFo,H bS] 71)) (fu.trans (b:=_) gF hg1))) | (go_at_call 104;(with_reducible refine(HBO.out _).mono ?_);rw[HBB.out];rintro e w2 ⟨rfl,hg2⟩) | (go_at_call 43;(with_reducible refine(gW _ _ _ _).mono ?_);rw[HIB.out];rintro e w3 ⟨rfl,rfl⟩));exact Rj (v:=G (D ⟨w.heap.size+1,0,C⟩) 0 0) (by simp[Rv,results124,go_sem]) rfl (show BA _ w _ _ from by rw[HE.out];exact⟨_,0,[],[w.heap.size+1],rfl,Has.Wy (np 8) (g:=w.heap.size+1) (zj (EOUT.out) hg1),gU.nil _ _ _,fun b hb=>by simp only[Rc] at hb;omega,(fu.trans (b:=_) gF hg1)⟩)
 rcases RX (jP ⟨bF,bI,bFo,bS⟩) with af | af
 rotate_left
 ·have HE:Hid (jZ p ⟨bF,bI,bFo,bS⟩ image = []):=fh (by unfold jZ;rw[Ro (fun h=>by rw[af] at h;cases h.2.1)])
  have HPB:=fh a6;have HBB:=fh af;have HIB:=fh (rfl:fP image 0 1=fP image 0 1);clear a6 af;exact uz
 rcases RX (fP image 0 1) with ad | ad
 rotate_left
 ·have HE:Hid (jZ p ⟨bF,bI,bFo,bS⟩ image = []):=fh (by unfold jZ;rw[Ro (fun h=>by rw[ad] at h;cases h.2.2)])
  have HPB:=fh a6;have HBB:=fh af;have HIB:=fh ad;clear a6 af ad;exact uz
 have HE:Hid (jZ p ⟨bF,bI,bFo,bS⟩ image=mX p ⟨bF,bI,bFo,bS⟩ image ((zq p).length-0) 0 0):=fh (by unfold jZ;rw[Rs ⟨a6,af,ad⟩];rfl);have HPB:=fh a6;have HBB:=fh af;have HIB:=fh ad;have cq:=(qB a6).my;clear a6 af ad;go_enter func124,ntmps124;go_wp2_with(first | (go_at_call 102;(with_reducible refine(zaK (Ty.up _ hx gF) hll hs).mono ?_);rw[HPB.out];rintro e w1 ⟨rfl,hg1⟩;obtain⟨b0,b1,b2,b3,bf,bl⟩:=iL (zj (Re w (F #[J Z bF,J Z bI,H bFo,H bS] 71)) (fu.trans (b:=_) gF hg1))) | (go_at_call 104;(with_reducible refine(HBO.out _).mono ?_);rw[HBB.out];rintro e w2 ⟨rfl,hg2⟩) | (go_at_call 43;(with_reducible refine(gW _ _ _ _).mono ?_);rw[HIB.out];rintro e w3 ⟨rfl,rfl⟩));have bv:fu (w.alloc (F #[J Z bF,J Z bI,H bFo,H bS] 71)) w2:=(fu.trans (b:=_) gF hg1).trans hg2;have bH:=fh (zj (Re w (F #[J Z bF,J Z bI,H bFo,H bS] 71)) bv);have bd:fu w w2:=fu.trans (b:=_) gF bv;have br:Has ((np 8).sl 229) w2 [G (D ⟨w.heap.size+1,0,C⟩) 0 0] [] [w.heap.size+1]:=Has.Wy (np 8) (zj EOUT.out (hg1.trans hg2));have bJ:=fh br;clear br b0 b1 b2 b3 bf bl;go_loopw [7,8,9] (fun z7 z8 z9 wr=>∃(f:Nat) (a:Int) (rs:Q (Q Value)) (acc:Q fK) (A7:X RJ) (c7:Nat) (S7:Q Nat),z7=G A7 rs.length c7/\z8=J Z a/\z9=J Z f/\f<=(zq p).length/\0<=a/\a<=12000*(f:Int)/\rs.length<=2400*f/\Hid (fu w wr)/\Hid (wr.heap[w.heap.size]?=D (F #[J Z bF,J Z bI,H bFo,H bS] 71 (0,0)))/\Hid (∀ b∈S7,w.heap.size<b)/\Hid (Has ((np 8).sl 229) wr [G A7 rs.length c7] rs S7)/\Hid (gU w.heap.size wr S7 rs acc)/\Hid (acc++mX p ⟨bF,bI,bFo,bS⟩ image ((zq p).length-f) f a=jZ p ⟨bF,bI,bFo,bS⟩ image)) (fun _ _ z9 _=>(zq p).length-(RS z9).toNat)
 case atStart=>exact⟨0,0,[],[],_,0,_,rfl,rfl,rfl,Rl _,Tz _,K9,Rl _,fh bd,bH,fh (fun b hb=>by simp only[Rc] at hb;omega),bJ,fh (gU.nil _ _ _),fh HE.out.symm⟩
 case round=>
 obtain⟨f,a,aR,a7,aL,aO,ak,rfl,rfl,rfl,hf,bT,cl,c2,a8,ap,aA,aB,ar,b4⟩:=hrel;obtain⟨b0,b1,b2,b3,bf,bl⟩:=iL ap.out;by_cases hlt:f<(zq p).length
 ·have bW:(f:Int)<((zq p).length:Int):=K9
  have cv:Rg Z ((f:Int)+1)=(f:Int)+1:=iw;have bD:=fun w' (hg:fu wr w')=>zbI (Ty.up _ hx (a8.out.trans hg)) hll;obtain⟨ib,ad⟩:∃ ib,ny ⟨bF,bI,bFo,bS⟩ f image=ib:=⟨_,rfl⟩
  have bn:=fun w'=>ztl (b:=⟨bF,bI,bFo,bS⟩) (f:=f) (image:=image) (w:=w') K9;have bk:=fh bn;have aN:=fh ad;clear bn ad;cases ib with
  | false=>
   have HAT:=fh (Lt (p:=p) (a:=a) hlt aN.out);go_wp2_with(first | (go_at_call 106;(with_reducible refine(zbI (Ty.up _ hx (a8.out.trans gF)) hll).mono ?_);rintro e w5 ⟨A5,c5,S5,rfl,b6,b7,a2⟩;have b0:=za a2 b0;have b1:=za a2 b1;have b2:=za a2 b2;have b3:=za a2 b3) | (go_at_call 165;(with_reducible refine(bk.out _).mono ?_);rw[aN.out];rintro e w6 ⟨rfl,a5⟩));go_roundw;exact⟨f+1,a,aR,a7,aL,aO,ak,rfl,rfl,Ar,K9,bT,K9,K9,fh (a8.out.trans (a2.trans a5)),fh (zj ap.out (a2.trans a5)),aA,fh (aB.out.fy (a2.trans a5)),fh (ar.out.fy (a2.trans a5)),fh (by rw[<-b4.out,HAT.out])⟩;exact gM
  | true=>
   have au:=fh (Kp (p:=p) (a:=a) hlt aN.out);obtain⟨am,c0,c1⟩:=Cc HPB.out HBB.out hlt;have aT:=fun(W:U) (h:(zQ.sl 99).R W W.heap.size [G A p.length c] p)=>zvZ (w:=W) (A:=A) (c:=c) h hs HPB.out HBB.out hlt;generalize ki p ⟨bF,bI,bFo,bS⟩ f=ia at au am c0 c1 aT;have bE:=fh aT;have aW:=fh am;clear aT am;go_wp2_with(first | (go_at_call 106;(with_reducible refine(zbI (Ty.up _ hx (a8.out.trans gF)) hll).mono ?_);rintro e w5 ⟨A5,c5,S5,rfl,b6,b7,a2⟩;have b0:=za a2 b0;have b1:=za a2 b1;have b2:=za a2 b2;have b3:=za a2 b3) | (go_at_call 165;(with_reducible refine(bk.out _).mono ?_);rw[aN.out];rintro e w6 ⟨rfl,a5⟩;have b0:=za a5 b0;have b1:=za a5 b1;have b2:=za a5 b2;have b3:=za a5 b3) | (go_at_call 166;(with_reducible refine(bE.out _ (Ty.up _ hx (a8.out.trans (a2.trans (a5.trans gF))))).mono ?_);rintro e w7 ⟨ch,aZ,bM,rfl,ay,aC,bu⟩));have aF:fu wr w7:=(a2.trans a5).trans (fu.trans (b:=_) gF bu);have aH:∀ b∈bM,wr.heap.size<=b:=fun b hb=>RG (a2.trans a5).size (aC b hb);have a3:=fh aF;have av:=fh ay;have ae:=fh aH;obtain⟨wz,bz⟩:∃ z,wr=z:=⟨_,rfl⟩
   rw[bz] at a8 ap aB ar a3 ae;clear b0 b1 b2 b3 bf bl a2 a5 bu b7 b6 ay aC aF aH bD bz;go_loopw [8,11,12] (fun z8 z11 z12 wr=>∃(k:Nat) (a1:Int) (st:Q Int) (aS:X RJ) (ax:Nat) (aY:Q Nat),z8=J Z a1/\z11=G aS k ax/\z12=J Z k/\k<=ia.length/\a<=a1/\a1<=a+5*(k:Int)/\Hid (st.length=k)/\Hid (fu w7 wr)/\Hid (Has (zr.sl 3) wr [G aS k ax] st aY)/\Hid (∀ b∈aY,w7.heap.size<=b)/\Hid (st++mr (ia.drop k) a1=mr ia a)/\Hid (mw (ia.drop k) a1=mw ia a)) (fun _ _ z12 _=>ia.length-(RS z12).toNat)
   case atStart=>exact⟨0,a,[],_,0,[w7.heap.size],rfl,rfl,rfl,Rl _,Tz _,K9,fh rfl,fh gF,fh (Has.Wy zr (zj (Re w7 _) gF)),fh (fun b hb=>by simp only[Rc] at hb;omega),fh rfl,fh rfl⟩
   case round=>
   obtain⟨k,a1,st,aS,ax,aY,rfl,rfl,rfl,hk,cn,cm,ca,aq,bp,aD,bt,bo⟩:=hrel;by_cases hkl:k<ia.length
   ·have be:(k:Int)<(ia.length:Int):=K9
    have cc:Rg Z ((k:Int)+1)=(k:Int)+1:=iw;obtain⟨gi,oi,x,A20,c20,rfl,an,aj,y0,_⟩:=Qp av.out.read hkl;have y0:=za aq.out y0;have cr:=AN x.Op.Code;have cu:Rg Z (a1+zS x.Op.Code)=a1+zS x.Op.Code:=iw;have b9:fE a1:=⟨K9,K9⟩
    have bL:=fh (Mu aj a1);have bG:=fh (OV aj a1);clear aj;go_wp2_with(first | (at_builtin;refine zD (L:=k+1) rfl (.tmp 53) (.tmp 55) lN zE (bp.out.fy gF) (W1:=w) (B:=0) (ec:=[J Z a1]) (y:=a1) (Jo _ _ b9) rfl rfl rfl (by intro j u hu;simpa[go_sem] using hu) rfl K9 K9 ?_;intro A8 c8 W8 S8 hon hH8 hS8;have y0:=(hon.cell (g:=gi) (Ri an (fu.trans aq.out gF).size) (fun hm=>by have h:=aD.out gi hm;omega) _).trans (za gF y0)) | (go_at_call 167;(with_reducible refine(zga _ _).mono ?_);rintro e w9 ⟨rfl,rfl⟩));go_roundw;exact⟨k+1,a1+zS x.Op.Code,st++[a1],A8,c8,S8,rfl,rfl,Ar,K9,K9,K9,fh (by rw[Rh,ca.out];rfl),fh (hon.fy (aq.out.trans gF) aD.out),fh hH8,fh (fun b hb=>(hS8 b hb).elim (aD.out b) (fun h=>RG (fu.size (fu.trans aq.out gF)) h)),fh (by rw[<-bt.out,bL.out,RU];rfl),fh (by rw[<-bo.out,bG.out])⟩;exact gM
   obtain rfl:k=ia.length:=K9;have be:¬ ((ia.length:Int)<(ia.length:Int)):=K9;have b9:fE a1:=⟨K9,K9⟩
   have aX:Hid (st++[a1]=mr ia a):=fh (by rw[<-bt.out,RL];rfl);have aV:Hid (a1=mw ia a):=fh (by rw[<-bo.out,RL];rfl);obtain⟨ST,a9⟩:∃ ST,mr ia a=ST:=⟨_,rfl⟩
   have aw:Hid (ST.length=ia.length+1):=fh (by rw[<-a9];exact Fo _ _);have bm:Hid (∀ v∈ST,a<=v/\v<=a+5*(ia.length:Int)):=fh (by rw[<-a9];exact FT _ _);have bK:Hid (lQ ia a=rm ST ia 0):=fh (by rw[<-a9];rfl);rw[a9] at aX;clear a9;go_wp2_with(first | (at_builtin;refine zD (L:=ia.length+1) rfl (.tmp 66) (.tmp 68) lN zE (bp.out.fy gF) (W1:=w) (B:=0) (ec:=[J Z a1]) (y:=a1) (Jo _ _ b9) rfl rfl rfl (by intro j u hu;simpa[go_sem] using hu) rfl K9 K9 ?_;intro A9 c9 w9 S9 aI az bs));have aE:fu w7 w9:=aI.fy (fu.trans aq.out gF) aD.out;have bR:(zr.sl 3).R w9 w9.heap.size [G A9 ST.length c9] ST:=by rw[aw.out,<-aX.out];exact az.read
   have bg:∀ b∈S9,w7.heap.size<=b:=fun b hb=>(bs b hb).elim (aD.out b) (fun h=>RG (fu.size (fu.trans aq.out gF)) h);rw[aX.out] at az;have aM:=fh aE;have ci:=fh az;have cj:=fh bg;have aG:=fh (av.out.fy aE);have bQ:=fh (aB.out.fy (a3.out.trans aE));have bP:=fh (ar.out.fy (a3.out.trans aE));obtain⟨gt,bN,al,ao,ab⟩:=Oz az (by rw[aw.out];omega);subst bN;have aU:=fh ab;have bx:=bg gt al;clear az bg aI bs aE bR ab al;go_loopw [7,13] (fun z7 z13 wr=>∃(k:Nat) (rs:Q (Q Value)) (acc:Q fK) (A7:X RJ) (c7:Nat) (S7:Q Nat),z7=G A7 rs.length c7/\z13=J Z k/\k<=ia.length/\Hid (fx ak w9 wr)/\Hid (∀ b∈S7,b∈ak∨w9.heap.size<=b)/\Hid (Has ((np 8).sl 229) wr [G A7 rs.length c7] rs S7)/\Hid (gU w.heap.size wr S7 rs acc)/\Hid (acc++rm ST (ia.drop k) k=a7++lQ ia a)/\rs.length<=2400*f+k) (fun _ z13 _=>ia.length-(RS z13).toNat)
   case atStart=>exact⟨0,aR,a7,aL,aO,ak,rfl,rfl,Rl _,fh (fx.refl _ _),fh (fun b hb=>.inl hb),bQ,bP,fh (by rw[bK.out];rfl),K9⟩
   case round=>
   obtain⟨k,rs,acc,A7,c7,S7,rfl,rfl,hk,hO7,hS7,hR7,hPR,hA4,cs⟩:=hrel;by_cases hkl:k<ia.length
   ·have be:(k:Int)<(ia.length:Int):=K9
    have cc:Rg Z ((k:Int)+1)=(k:Int)+1:=iw;have aj:ia[k]?=D ia[k]:=Rn hkl;generalize ia[k]=x at aj;obtain⟨gi,ec,Sc,b5,bc,an,_,aK,_,hO,_,aa,_⟩:=qh aG.out.1 aG.out.2 aj;obtain⟨A20,c20,ck,rfl,b8,hxcI,bi,hxlI,ac,hxdI⟩:=IX hO;subst b8;subst b5;have bj:=aB.out.lt;have cg:=a3.out.size;have ce:=aM.out.size;have cf:=hO7.out.size;have bX:=ae.out gi bc;have bb:gi∉ak:=fun hm=>by have:=bj gi hm;omega
    have ai:gt∉ak:=fun hm=>by have:=bj gt hm;omega
    have hgtw:gt<wr.heap.size:=K9;have bh:ph.size=7:=rfl;rw[bh] at aa;have a0:=fun j u (hu:[J Z x.Op.Code,J Z x.Op.Wv,J Z x.fG,H x.kw,G A20 x.fB.length c20,J Z x.fF,H x.fD][j]?=D u)=>(hO7.out.cell an bb _).trans (aa j u hu);have y0:Rb wr ⟨gi,k*7,C⟩=D (J Z x.Op.Code):=a0 0 _ rfl;have y1:Rb wr ⟨gi,k*7+1,C⟩=D (J Z x.Op.Wv):=a0 1 _ rfl;have y2:Rb wr ⟨gi,k*7+2,C⟩=D (J Z x.fG):=a0 2 _ rfl;have y3:Rb wr ⟨gi,k*7+3,C⟩=D (H x.kw):=a0 3 _ rfl;have y4:Rb wr ⟨gi,k*7+4,C⟩=D (G A20 x.fB.length c20):=a0 4 _ rfl;have y5:Rb wr ⟨gi,k*7+5,C⟩=D (J Z x.fF):=a0 5 _ rfl;have y6:Rb wr ⟨gi,k*7+6,C⟩=D (H x.fD):=a0 6 _ rfl;have ah:∀ b∈Sc,b∉ak/\b<w9.heap.size:=fun b hb=>⟨fun hm=>by have h1:=bj b hm;have h2:=ae.out b (aK b hb);omega,Ty.iY _ ac b hb⟩;have hchO:(zr.sl 3).O wr [G A20 x.fB.length c20] x.fB Sc:=Ty.gD _ ac (fun b hb=>hO7.out.block b (ah b hb).2 (ah b hb).1);have hScS:∀ b∈Sc,b∉S7/\w.heap.size<=b:=fun b hb=>⟨fun hm=>(hS7.out b hm).elim (ah b hb).1 (fun h=>by have:=(ah b hb).2;omega),by have h1:=ae.out b (aK b hb);have h2:=a8.out.size;omega⟩;have hgtS:gt∉S7:=fun hm=>(hS7.out gt hm).elim ai (fun h=>K9);obtain⟨sk,aJ⟩:∃ v,ST[k]?=D v:=⟨_,Rn (by rw[aw.out];omega)⟩
    obtain⟨bC,hskI⟩:=aU.out k sk aJ;have tk:=(hO7.out.cell ao ai k).trans bC;have c6:(k:Int)<(ia.length:Int)+1:=K9;have bq:=aW.out k x aj;have HAT:=fh (Lu (st:=ST) aj);have bw:gi<wr.heap.size:=K9;clear a0 aa hO ac aj bC;by_cases hj:x.Op.Code=10∨x.Op.Code=11
    ·obtain⟨ag,ba⟩:∃ ag:Nat,x.Op.Wv=(ag:Int):=⟨x.Op.Wv.toNat,by have:=bq.jump hj;omega⟩
     have bV:ag<=ia.length:=by have:=bq.jump hj;omega
     obtain⟨sa,aQ⟩:∃ v,ST[ag]?=D v:=⟨_,Rn (by rw[aw.out];omega)⟩
     obtain⟨s1,aP⟩:∃ v,ST[k+1]?=D v:=⟨_,Rn (by rw[aw.out];omega)⟩
     have hPL:=fh (Ko hj ba aJ aQ aP);obtain⟨bB,c4⟩:=aU.out ag sa aQ;obtain⟨bA,c3⟩:=aU.out (k+1) s1 aP;have ta:=(hO7.out.cell ao ai ag).trans bB;have t1:=(hO7.out.cell ao ai (k+1)).trans bA;have cp:=bm.out sa (Rt aQ);have co:=bm.out s1 (Rt aP);have cw:Rg Z (sa-s1)=sa-s1:=iw;have hvI:fE (sa-s1):=⟨K9,K9⟩
     have bU:(ag:Int)<(ia.length:Int)+1:=K9;have bZ:(k:Int)+1<(ia.length:Int)+1:=K9;have ct:((k:Int)+1).toNat=k+1:=K9;have bY:(0:Int)<=(k:Int)+1:=K9;rw[ba] at y1;have HJ:=fh hj;clear hj ba bB bA aJ aQ aP;go_upto_region 21 with(fail);have eb:(wr.alloc (F #[J Z x.Op.Code,J Z (ag:Int),J Z x.fG,H x.kw,G A20 x.fB.length c20,J Z x.fF,H x.fD] 227)).heap[wr.heap.size]?=D (F #[J Z x.Op.Code,J Z (ag:Int),J Z x.fG,H x.kw,G A20 x.fB.length c20,J Z x.fF,H x.fD] 227 (0,0)):=Re _ _;have hgYa:fu wr (wr.alloc (F #[J Z x.Op.Code,J Z (ag:Int),J Z x.fG,H x.kw,G A20 x.fB.length c20,J Z x.fF,H x.fD] 227)):=(fu.refl _).alloc _;obtain⟨g14,a4⟩:∃ g,wr.heap.size=g:=⟨_,rfl⟩
     rw[a4] at eb |-;have HG14:=fh a4;have hg14S:g14∉S7:=fun hm=>by have h:=hR7.out.lt g14 hm;omega
     clear a4;generalize (wr.alloc _)=Y at eb hgYa |-;obtain⟨o0,o1,o2,o3,o4,o5,o6,of,ol⟩:=zK eb;have ta:=za hgYa ta;have t1:=za hgYa t1;rcases HJ.out with hj | hj
     ·have aZ:(x.Op.Code == 10)=M:=RQ.2 hj
      exact WU
     ·have aZ:(x.Op.Code == 10)=I:=Rm.2 K9
      have ax:(x.Op.Code == 11)=M:=RQ.2 hj;exact WU
    ·have aZ:(x.Op.Code == 10)=I:=Rm.2 (fun h=>hj (.inl h))
     have ax:(x.Op.Code == 11)=I:=Rm.2 (fun h=>hj (.inr h));have hPL:=fh (Kn hj aJ);clear hj aJ;go_upto_region 23 with(fail);have eb2:(wr.alloc (F #[J Z x.Op.Code,J Z x.Op.Wv,J Z x.fG,H x.kw,G A20 x.fB.length c20,J Z x.fF,H x.fD] 227)).heap[wr.heap.size]?=D (F #[J Z x.Op.Code,J Z x.Op.Wv,J Z x.fG,H x.kw,G A20 x.fB.length c20,J Z x.fF,H x.fD] 227 (0,0)):=Re _ _;have hgY:fu wr (wr.alloc (F #[J Z x.Op.Code,J Z x.Op.Wv,J Z x.fG,H x.kw,G A20 x.fB.length c20,J Z x.fF,H x.fD] 227)):=(fu.refl _).alloc _;obtain⟨g14,a4⟩:∃ g,wr.heap.size=g:=⟨_,rfl⟩
     rw[a4] at eb2 |-;have HG14:=fh a4;have hg14S:g14∉S7:=fun hm=>by have h:=hR7.out.lt g14 hm;omega
     clear a4;generalize (wr.alloc _)=Y2 at eb2 hgY |-;obtain⟨o0,o1,o2,o3,o4,o5,o6,of,ol⟩:=zK eb2;have tk:=za hgY tk;have hgtY:gt<Y2.heap.size:=Ri hgtw hgY.size;have hHY:=hR7.out.fy hgY;have hPY:=hPR.out.fy hgY;go_region_held3 (fun w'=>Rb w' ⟨g14,0,C⟩=D (J Z x.Op.Code)/\Rb w' ⟨g14,1,C⟩=D (J Z x.Op.Wv)/\Rb w' ⟨g14,2,C⟩=D (J Z x.fG)/\Rb w' ⟨g14,3,C⟩=D (H x.kw)/\Rb w' ⟨g14,4,C⟩=D (G A20 x.fB.length c20)/\Rb w' ⟨g14,5,C⟩=D (J Z x.fF)/\Rb w' ⟨g14,6,C⟩=D (H x.fD)/\Rb w' ⟨gt,k,C⟩=D (J Z sk)) ((repeat' apply Rf) <;> ((repeat (first | with_reducible assumption | with_reducible refine zd ?_ _ _ | with_reducible refine zo ?_ _ | with_reducible refine zc ?_ | with_reducible refine mC ?_ _));done)) (first | (refine pY (L:=rs.length+1) rfl (.tmp 104) (.tmp 111) Ht (Df 8) (hHY.fy gF) (W1:=w) (B:=0) (ec:=[J Z sk,J Z x.Op.Code,J Z x.Op.Wv,J Z x.fG,H x.kw,G A20 x.fB.length c20,J Z x.fF,H x.fD]) (y:=[J Z sk,J Z x.Op.Code,J Z x.Op.Wv,J Z x.fG,H x.kw,G A20 x.fB.length c20,J Z x.fF,H x.fD]) ⟨rfl,rfl,by intro u hu;simp only[RO,Sq,Tm] at hu;rcases hu with rfl | rfl | rfl | rfl | rfl | rfl | rfl | rfl <;> rfl⟩ rfl rfl rfl (by intro j u hu;simpa[go_sem] using hu) rfl K9 K9 ?_;intro A8 c8 W8 S8 hon hH8 hS8;have o0:=(hon.cell (g:=g14) (Ri ol (fu.size gF)) hg14S _).trans (za gF o0);have o1:=(hon.cell (g:=g14) (Ri ol (fu.size gF)) hg14S _).trans (za gF o1);have o2:=(hon.cell (g:=g14) (Ri ol (fu.size gF)) hg14S _).trans (za gF o2);have o3:=(hon.cell (g:=g14) (Ri ol (fu.size gF)) hg14S _).trans (za gF o3);have o4:=(hon.cell (g:=g14) (Ri ol (fu.size gF)) hg14S _).trans (za gF o4);have o5:=(hon.cell (g:=g14) (Ri ol (fu.size gF)) hg14S _).trans (za gF o5);have o6:=(hon.cell (g:=g14) (Ri ol (fu.size gF)) hg14S _).trans (za gF o6);have tk:=(hon.cell (g:=gt) (Ri hgtY (fu.size gF)) hgtS _).trans (za gF tk)))
     all_goals go_wp2_with(fail)
     all_goals go_roundw
     case measure=>exact gM
     case rel=>
      have hrow:nM w.heap.size Y2 S7 [J Z sk,J Z x.Op.Code,J Z x.Op.Wv,J Z x.fG,H x.kw,G A20 x.fB.length c20,J Z x.fF,H x.fD] (mN ST k x):=by
       rw[hPL.out];exact⟨A20,c20,Sc,rfl,Ty.jh _ hchO hgY,fun b hb=>hScS b hb,hskI,hxcI,bi,hxlI,hxdI⟩
      exact⟨k+1,rs++[[J Z sk,J Z x.Op.Code,J Z x.Op.Wv,J Z x.fG,H x.kw,G A20 x.fB.length c20,J Z x.fF,H x.fD]],acc++[mN ST k x],A8,c8,S8,by rw[Rh];rfl,Ar,K9,fh (E7 hO7.out hS7.out (fu.trans hgY gF) hon),fh (FR hO7.out hS7.out (fu.trans hgY gF) hS8),fh (by rw[Rh];exact hH8),fh (gU.push hPY hrow gF hon hS8),fh (by rw[<-hA4.out,HAT.out,RU];rfl),by rw[Rh,R4];omega⟩
   ·obtain rfl:k=ia.length:=K9
    have be:¬ ((ia.length:Int)<(ia.length:Int)):=K9;have bO:Hid (acc=a7++lQ ia a):=fh (by rw[<-hA4.out,RL];simp[rm]);have cg:=a3.out.size;have ce:=aM.out.size;have cf:=hO7.out.size;have cd:=a8.out.size;go_wp2_with(fail);go_roundw;exact⟨f+1,a1,rs,acc,A7,c7,S7,rfl,rfl,Ar,K9,K9,K9,K9,fh (hO7.out.fy (a8.out.trans (a3.out.trans aM.out)) (fun b hb=>Vd (aA.out b hb))),fh ((hO7.out.block w.heap.size (by have:=(blt ap.out);omega) (fun hm=>by have:=aA.out _ hm;omega)).trans (zj ap.out (a3.out.trans aM.out))),fh (fun b hb=>(hS7.out b hb).elim (aA.out b) (fun h=>by have:=(blt ap.out);omega)),hR7,hPR,fh (by rw[<-b4.out,au.out,bO.out,aV.out,RU])⟩;exact gM
 ·obtain rfl:f=(zq p).length:=K9
  have bW:¬ (((zq p).length:Int)<((zq p).length:Int)):=K9;have HQ:Hid (a7=jZ p ⟨bF,bI,bFo,bS⟩ image):=fh (by rw[<-b4.out,St];simp[mX]);go_wp2_with(first | (go_at_call 106;(with_reducible refine(zbI (Ty.up _ hx (a8.out.trans gF)) hll).mono ?_);rintro e w5 ⟨A5,c5,S5,rfl,b6,b7,a2⟩));exact Rj (v:=G aL aR.length aO) (by simp[Rv,results124,go_sem]) rfl (show BA _ w _ _ from by rw[<-HQ.out];exact⟨aL,aO,aR,ak,by rw[ar.out.1],by rw[<-ar.out.1];exact(aB.out.fy a2).fy gF,(ar.out.fy a2).fy gF,fun b hb=>Vd (aA.out b hb),(a8.out.trans a2).trans gF⟩)
def pM (p:Q fw)(i:gv)(x:fK):Q fC:=if x.lw.Op.Code=13∨x.lw.Op.Code=15/\kP p x.lw.fG=0 then i.fm++[⟨mj p x.lw.fG,x.us,0⟩] else i.fm
theorem CE (p:Q fw)(i:gv)(x:fK):nc p i x=⟨i.Code++jR x.lw.Op,qp (pM p i x) ((i.Code++jR x.lw.Op).size:Nat)⟩:=rfl
theorem Mt {l:Q fC} {n:Int} (hl:l.length=m+1)(hq:l[m]?=D q):qp l n=l.set m { q with gH:=n-q.kw }:=by
 have h:l.getLast?=D q:=by rw[Uu,hl];exact hq
 unfold qp;rw[h];simp only;apply U3;intro j;rw[U2];by_cases hj:m=j
 ·subst hj
  rw[Rs rfl,Rs K9,Sd (by simp;omega)];simp[hl]
 ·rw[Ro hj]
  exact Xn
theorem BW {p:Q fw}{xs:Q fK}(ha:∀ x∈xs,qY p x):∀ k,k<=xs.length->∀ s∈(lh p xs k).fm,0<=s.kw/\s.kw<=100000
 | 0,_,s,hs=>by cases hs
 | k+1,h,s,hs=>by
  have hx:xs[k]?=D xs[k]:=Rn K9;rw[CS hx,CE] at hs
  have hk:∀ s∈pM p (lh p xs k) xs[k],0<=s.kw/\s.kw<=100000:=by
   intro s hs;unfold pM at hs;split at hs
   ·rcases Rr.1 hs with hs | hs
    ·exact BW ha k K9 s hs
    ·rw[Rc] at hs
     subst hs;exact(ha _ (List.getElem_mem _)).off
   ·exact BW ha k K9 s hs
  simp only at hs;unfold qp at hs;split at hs
  ·exact hk s hs
  ·rename_i q hq
   rcases Rr.1 hs with hs | hs
   ·exact hk s ((List.dropLast_sublist _).subset hs)
   ·rw[Rc] at hs
    subst hs;exact hk q (List.mem_of_getLast? hq)
theorem wP {o0 o1:Value} (h:W.heap[g]?=D (F #[o0,o1] e (0,0))) :
  Rb W ⟨g,0,C⟩=D o0/\Rb W ⟨g,1,C⟩=D o1/\(∀ j,Rx W ⟨g,j,C⟩=I)/\g<W.heap.size:=by
 refine⟨?_,?_,fun j=>by simp[Rx,h],(blt h)⟩
 all_goals
  rw[Sw W g _ _ _ (0,0) h]
  rfl
theorem IW {xs:Q fC} (h:Has (jm.sl e) W [G A n c] xs S)(hq:xs[m]?=D q):∃ g,A=D ⟨g,0,C⟩/\g∈S/\g<W.heap.size/\(∀ j,Rx W ⟨g,j,C⟩=I)/\Rb W ⟨g,m*3+1,C⟩=D (J Z q.kw)/\Rb W ⟨g,m*3+2,C⟩=D (J Z q.gH)/\
  ∀ v,fE v->Has (jm.sl e) (W.setCell ⟨g,m*3+2,C⟩ (J Z v)) [G A n c] (xs.set m { q with gH:=v }) S/\fx S W (W.setCell ⟨g,m*3+2,C⟩ (J Z v)):=by
 obtain⟨g,ec,Sc,rfl,a1,a2,_,_,_,hO,hf,hc,a0,_⟩:=qh h.1 h.2 hq;obtain⟨rfl,rfl,b0,b1,b2⟩:=Nm hO;refine⟨g,rfl,a1,a2,hf,hc 1 _ rfl,hc 2 _ rfl,fun v hv=>?_⟩;have hp:=a0 2 (J Z v) { q with gH:=v } qo rfl (Mk (x:={ q with gH:=v }) b0 b1 hv);exact⟨⟨hp.1,h.2⟩,hp.2⟩
def Jj (i:gv)(w:U)(r:Ending)(w':U):Prop:=∃ A c S,r=.returned (.agg #[V i.Code,G A i.fm.length c])/\Has (jm.sl 137) w' [G A i.fm.length c] i.fm S/\(∀ b∈S,w.heap.size<=b)/\fu w w'
theorem F8 (p:Q fw)(b:fY)(image:Int):jz p b image=lh p (jZ p b image) (jZ p b image).length:=by
 unfold jz lh;rw[SC]
theorem zhX (hx:(zQ.sl 99).R w w.heap.size [G A p.length c] p)(hll:p.length<=1099511627776)(hs:∀ x∈p,x.fL.length<=1099511627776/\x.Expr.length<=1099511627776) :
  RD prog 105 #[G A p.length c,.agg #[J Z b.M2,J Z b.IR,H b.Wz,H b.NE],J Z image] w (Jj (jz p b image) w):=by
 obtain⟨af,aX,ag⟩:=BZ p b image;have bb:=fh (F8 p b image);have aO:=fun(W:U) (h:(zQ.sl 99).R W W.heap.size [G A p.length c] p)=>zlE (w:=W) (A:=A) (c:=c) (b:=b) (image:=image) h hll hs;generalize jZ p b image=xs at af aX ag bb aO;have aL:=fh aO;have ak:=fh af;have al:=fh ag;clear aO af ag;have ez:(((w.alloc (F #[J Z b.M2,J Z b.IR,H b.Wz,H b.NE] 71)).alloc (F #[V Wy,G C 0 0] 103)).alloc (F #[V Wy,G C 0 0] 103)).heap[w.heap.size+1+1]?=D (F #[V Wy,G C 0 0] 103 (0,0)):=by have h:=Re ((w.alloc (F #[J Z b.M2,J Z b.IR,H b.Wz,H b.NE] 71)).alloc (F #[V Wy,G C 0 0] 103)) (F #[V Wy,G C 0 0] 103);rw[Rz,Rz] at h;exact h
 have be:(((w.alloc (F #[J Z b.M2,J Z b.IR,H b.Wz,H b.NE] 71)).alloc (F #[V Wy,G C 0 0] 103)).alloc (F #[V Wy,G C 0 0] 103)).heap[w.heap.size+1]?=D (F #[V Wy,G C 0 0] 103 (0,0)):=by have h:=Re (w.alloc (F #[J Z b.M2,J Z b.IR,H b.Wz,H b.NE] 71)) (F #[V Wy,G C 0 0] 103);rw[Rz] at h;exact zj h ((fu.refl _).alloc _)
 have EZ:=fh ez;have bn:=fh be;clear ez be;go_enter func105,ntmps105;go_wp2_with(first | (go_at_call 124;(with_reducible refine(aL.out _ (Ty.up _ hx gF)).mono ?_);rintro e w2 ⟨A8,c8,rs,S8,rfl,bi,aE,ae,av⟩));obtain⟨g7,a5⟩:∃ g,w.heap.size+1+1=g:=⟨_,rfl⟩
 obtain⟨g6,ai⟩:∃ g,w.heap.size+1=g:=⟨_,rfl⟩
 simp only[Rz] at aE ae;rw[a5] at aE ae;have az:fu w w2:=fu.trans (b:=_) gF av;have a4:=zj EZ.out av;have a9:=zj bn.out av;rw[a5] at a4;rw[ai] at a9;rw[a5,ai];have bl:=av.size;simp only[Rz] at bl;rw[a5] at bl;have ac:=fh az;have b8:=fh a9;have bc:=fh aE;have aM:=fh bi;have bd:=fh ae;have bB:w.heap.size<g7:=K9;have aT:g6≠g7:=K9;have bA:g6<g7:=K9;have au:w.heap.size<=g6:=K9;clear az a9 aE bi ae av a5 ai;go_loopw [9] (fun z9 wr=>∃(k:Nat) (A:X RJ) (c1:Nat) (S1:Q Nat),z9=J Z k/\k<=xs.length/\Hid (wr.heap[g7]?=D (F #[V (lh p xs k).Code,G A (lh p xs k).fm.length c1] 103 (0,0)))/\Hid (Has (jm.sl 137) wr [G A (lh p xs k).fm.length c1] (lh p xs k).fm S1)/\Hid (∀ b∈S1,w2.heap.size<=b)/\Hid (fx [g7] w2 wr)) (fun z9 _=>xs.length-(RS z9).toNat)
 case atStart=>exact⟨0,C,0,[],rfl,Rl _,fh a4,fh (Has.nil _ _ _),fh (fun b hb=>by cases hb),fh (fx.refl _ _)⟩
 case round=>
 obtain⟨k,A,c1,S1,rfl,hk,a4,hH,a1,hO⟩:=hrel;by_cases hkl:k<xs.length
 ·have bG:(k:Int)<(xs.length:Int):=K9
  have c3:Rg Z ((k:Int)+1)=(k:Int)+1:=iw;have bx:=(bc.out.only hO.out (fun b hb=>by simp only[Rc] at hb;omega)).read (aM.out.fJ hO.out (fun b hb hm=>by simp only[Rc] at hm;have:=bd.out b hb;omega)) rfl;obtain⟨g,c6,x,aB,aD,bt,aU,aH,x0,x1,x2,x3,x4,x5,x6,x7,b0,b1,b2,b3,h5,b6⟩:=tx bx hkl;obtain⟨gq,_,_,ap,aW,bE,_⟩:=qh aM.out.1 aM.out.2 (Rn (l:=rs) (i:=k) (by rw[bc.out.1];exact hkl));subst bt;injection ap with ap
  injection ap with ap hoff
  subst ap;subst hoff;simp only[RF] at x0 x1 x2 x3 x4 x5 x6 x7;have bC:=bd.out g aW;have bk:=ak.out x (Rt aH);obtain⟨bz,bK,bL⟩:=Br al.out k K9;obtain⟨_,a3,aj⟩:=Br al.out (k+1) K9;have b5:=BW ak.out (k+1) K9;have aZ:=CS (p:=p) aH;rw[aZ,CE] at aj b5 a3;simp only[Cw] at a3;have aK:=fh (aZ.trans (CE p _ x));have aN:=fh b5;have aC:=fh (aj K9);have bU:=fh aH;have am:=fh a3;clear aZ b5 aj a3 aH;generalize lh p xs k=im at a4 hH bz bK bL aK aN aC am;simp only[Cw] at aC;have aG:fu w wr:=hO.out.fy ac.out (fun b hb=>by simp only[Rc] at hb;omega);obtain⟨ln,bj⟩:∃ n:Nat,x.lw.fG=(n:Int):=⟨x.lw.fG.toNat,by have:=bk.line;omega⟩
  have aY:ln<p.length:=by have:=bk.line;omega
  have bI:(ln:Int)<(p.length:Int):=K9;obtain⟨gp,op,u,bS,bV,bT,bW,hA,bD,hu,u0,v1,_,_,_,bM,_⟩:=lS hx aY;subst hA;have bJ:mj p x.lw.fG=u.pu:=by rw[bj];exact xm hu
  have bH:kP p x.lw.fG=u.li:=by rw[bj];exact yj hu
  have aV:=R7 _ _ u0;simp only at aV;go_upto_region 7 with(fail);have eb:(wr.alloc (F #[J Z x.lw.Op.Code,J Z x.lw.Op.Wv,J Z (ln:Int),H x.lw.kw,G aB x.lw.fB.length aD,J Z x.lw.fF,H x.lw.fD] 227)).heap[wr.heap.size]?=D (F #[J Z x.lw.Op.Code,J Z x.lw.Op.Wv,J Z (ln:Int),H x.lw.kw,G aB x.lw.fB.length aD,J Z x.lw.fF,H x.lw.fD] 227 (0,0)):=Re _ _;have a2:fu wr (wr.alloc (F #[J Z x.lw.Op.Code,J Z x.lw.Op.Wv,J Z (ln:Int),H x.lw.kw,G aB x.lw.fB.length aD,J Z x.lw.fF,H x.lw.fD] 227)):=(fu.refl _).alloc _;obtain⟨a8,ah⟩:∃ g,wr.heap.size=g:=⟨_,rfl⟩
  rw[ah] at eb |-;have bo:=fh ah;have bP:=hO.out.size;have ar:a8≠g7:=K9;have ad:a8∉S1:=fun hm=>by have h:=hH.out.lt a8 hm;omega
  have ao:g7∉S1:=fun hm=>by have h:=a1.out g7 hm;omega
  have gS:g∉S1:=fun hm=>by have h:=a1.out g hm;omega
  have bf:gp∉S1:=fun hm=>by have h:=a1.out gp hm;omega
  clear ah;generalize (wr.alloc _)=Y at eb a2 |-;obtain⟨o0,o1,o2,_,_,_,_,_,ol⟩:=zK eb;obtain⟨z0,z1,zf,a0⟩:=wP (zj a4.out a2);have u0:=za (aG.trans a2) u0;have v1:=za (aG.trans a2) v1;have x0:=za a2 x0;have aU:g<Y.heap.size:=by have:=a2.size;omega
  have ax:gp<Y.heap.size:=by have:=a2.size;omega
  have aQ:=fh (hH.out.fy a2);go_cut [45] from 16 to 90 (fun v wx=>v=H (decide (x.lw.Op.Code=13∨x.lw.Op.Code=15/\u.li=0))/\Y=wx)
  case first=>
   by_cases h13:x.lw.Op.Code=13
   ·have bq:(x.lw.Op.Code == 13)=M:=RQ.2 h13
    have HD:=fh (show M=decide (x.lw.Op.Code=13∨x.lw.Op.Code=15/\u.li=0) from(Rp (.inl h13)).symm);clear h13;go_wp2_with(fail);go_meet;exact⟨by rw[<-HD.out],rfl⟩
   ·have bq:(x.lw.Op.Code == 13)=I:=Rm.2 h13
    by_cases h15:x.lw.Op.Code=15
    ·have br:(x.lw.Op.Code == 15)=M:=RQ.2 h15
     by_cases hk0:u.li=0
     ·have ck:(u.li == 0)=M:=RQ.2 hk0
      have HD:=fh (show M=decide (x.lw.Op.Code=13∨x.lw.Op.Code=15/\u.li=0) from(Rp (.inr ⟨h15,hk0⟩)).symm);clear h13 h15 hk0;go_wp2_with(fail);go_meet;exact⟨by rw[<-HD.out],rfl⟩
     ·have ck:(u.li == 0)=I:=Rm.2 hk0
      have HD:=fh (show I=decide (x.lw.Op.Code=13∨x.lw.Op.Code=15/\u.li=0) from(Rk (fun h=>h.elim h13 (fun h=>hk0 h.2))).symm);clear h13 h15 hk0;go_wp2_with(fail);go_meet;exact⟨by rw[<-HD.out],rfl⟩
    ·have br:(x.lw.Op.Code == 15)=I:=Rm.2 h15
     have HD:=fh (show I=decide (x.lw.Op.Code=13∨x.lw.Op.Code=15/\u.li=0) from(Rk (fun h=>h.elim h13 (fun h=>h15 h.1))).symm);clear h13 h15;go_wp2_with(fail);go_meet;exact⟨by rw[<-HD.out],rfl⟩
  obtain⟨rfl,rfl⟩:=hcut;go_upto_if 45 with(fail)
  go_cut [] from 16 to 90 (fun wx=>∃(A:X RJ) (c1:Nat) (S1:Q Nat),wx.heap[g7]?=D (F #[V im.Code,G A (pM p im x).length c1] 103 (0,0))/\Has (jm.sl 137) wx [G A (pM p im x).length c1] (pM p im x) S1/\(∀ b∈S1,w2.heap.size<=b)/\fx [g7] w2 wx/\wx.heap[a8]?=D (F #[J Z x.lw.Op.Code,J Z x.lw.Op.Wv,J Z (ln:Int),H x.lw.kw,G aB x.lw.fB.length aD,J Z x.lw.fF,H x.lw.fD] 227 (0,0)))
  case first=>
   rw[<-bH];by_cases hif:x.lw.Op.Code=13∨x.lw.Op.Code=15/\kP p x.lw.fG=0
   ·rw[Rp hif]
    have an:Hid (pM p im x=im.fm++[⟨u.pu,x.us,0⟩]):=fh (by unfold pM;rw[Rs hif,bJ]);clear hif;go_upto_region 8 with(fail);refine zX (fun w'=>Rb w' ⟨g7,1,C⟩=D (G A im.fm.length c1)/\Rb w' ⟨a8,2,C⟩=D (J Z (ln:Int))/\Rb w' ⟨gp,op+ln*4+1,C⟩=D (V u.pu)/\Rb w' ⟨g,k*8,C⟩=D (J Z x.us)) 17 Fs (by((repeat' apply Rf) <;> ((repeat (first | with_reducible assumption | with_reducible refine zd ?_ _ _ | with_reducible refine zo ?_ _ | with_reducible refine zc ?_ | with_reducible refine mC ?_ _));done))) (fun hH=>?_);refine .tq 0 [17] hH ?_;refine .tq 1 [17] hH ?_;refine .tq 2 [17] hH ?_;refine .tq 3 [17] hH ?_;refine .tq 4 [17] hH ?_;refine .tq 5 [17] hH ?_;refine .tq 6 [17] hH ?_;refine .tq 7 [17] hH ?_;refine .tq 8 [17] hH ?_;refine .tq 9 [17] hH ?_;refine .tq 10 [17] hH ?_;refine .tq 11 [17] hH ?_;refine .tq 12 [17] hH ?_;refine .tq 13 [17] hH ?_;refine fA.one (i:=14) Fs rfl (fun K hK=>?_);go_simp;refine hK.out _ _ (by((repeat' apply Rf) <;> ((repeat (first | with_reducible assumption | with_reducible refine zd ?_ _ _ | with_reducible refine zo ?_ _ | with_reducible refine zc ?_ | with_reducible refine mC ?_ _));done))) (fun hH14=>?_);clear hK hH
    try simp only[lay]
    refine fA.one (i:=15) Fs rfl (fun K hK=>?_);(refine pY (L:=im.fm.length+1) rfl (.tmp 47) (.tmp 60) AS Au (aQ.out.fy gF) (W1:=w) (B:=0) (ec:=[V u.pu,J Z x.us,J Z 0]) (y:=(⟨u.pu,x.us,0⟩:fC)) (Fw (x:=(⟨u.pu,x.us,0⟩:fC)) bM b0 ⟨by show (_:Int)<=0;omega,by show (0:Int)<=_;omega⟩) rfl rfl rfl (by intro j u hu;simpa[go_sem] using hu) rfl K9 K9 ?_;intro A8 c8 W8 S8 ab bu ae;have z1:=(ab.cell (g:=g7) (Ri a0 (fu.size gF)) ao _).trans (za gF z1);have o2:=(ab.cell (g:=a8) (Ri ol (fu.size gF)) ad _).trans (za gF o2);have v1:=(ab.cell (g:=gp) (Ri ax (fu.size gF)) bf _).trans (za gF v1);have x0:=(ab.cell (g:=g) (Ri aU (fu.size gF)) gS _).trans (za gF x0);have cc:∀ j,Rx W8 ⟨g7,j,C⟩=I:=fun j=>(ab.frozen (g:=g7) (Ri a0 (fu.size gF)) ao j).trans ((((show fu Y _ from gF).only []).frozen a0 II j).trans (zf j));have ce:g7<W8.heap.size:=Ri (Ri a0 (fu.size gF)) ab.size);refine hK.out _ _ (by((repeat' apply Rf) <;> ((repeat (first | with_reducible assumption | with_reducible refine zd ?_ _ _ | with_reducible refine zo ?_ _ | with_reducible refine zc ?_ | with_reducible refine mC ?_ _));done))) (fun hH1415=>?_);clear hK hH14
    try simp only[lay]
    refine .tq 16 [17] hH1415 ?_;refine fA.last Fs rfl Fs (fun K hK=>?_);go_simp;refine hK.out _ _ ?_;clear hK
    try simp only[lay]
    go_wp2_with(fail);go_meet;have b7:fx [g7] W8 (W8.setCell ⟨g7,1,C⟩ (G A8 (im.fm.length+1) c8)):=(fx.refl _ _).setCell (p:=⟨g7,1,C⟩) II _;have bw:fx [g7] w2 W8:=hO.out.then ((((a2.trans (show fu Y _ from gF)).only S1).trans ab)) (fun b hb=>.inr (a1.out b hb));have aP:g7∉S8:=fun hm=>(ae g7 hm).elim ao (fun h=>absurd (Ri a0 (fu.size gF)) (Nat.not_lt.2 h));refine⟨A8,c8,S8,?_,by rw[an.out,Rh];exact bu.fJ b7 (fun b hb hm=>by simp at hm;exact aP (hm ▸ hb)),fun b hb=>(ae b hb).elim (a1.out b) (fun h=>RG (RG hO.out.size (a2.trans (show fu Y _ from gF)).size) h),bw.trans b7,?_⟩
    ·rw[an.out,Rh]
     exact jd (i:=1) (v:=G A8 (im.fm.length+1) c8) (cur':=#[V im.Code,G A8 (im.fm.length+1) c8]) ((ab.block g7 (Ri a0 (fu.size gF)) ao).trans (zj (zj a4.out a2) gF)) rfl
    ·exact(b7.block a8 (Ri (Ri ol (fu.size gF)) ab.size) (by simp;exact ar)).trans ((ab.block a8 (Ri ol (fu.size gF)) ad).trans (zj eb gF))
   ·rw[Rk hif]
    have an:Hid (pM p im x=im.fm):=fh (Ro hif);clear hif;go_wp2_with(fail);go_meet;exact⟨A,c1,S1,by rw[an.out];exact(zj a4.out a2),by rw[an.out];exact aQ.out,a1.out,hO.out.trans (a2.only _),eb⟩
  case rest=>
   clear z0 z1 zf a0 u0 v1 x0 aQ o0 o1 o2 ol eb ao ad gS bf aU ax;obtain⟨A,c1,S1,a4,hH,a1,hO,eb⟩:=hcut;obtain⟨z0,z1,zf,a0⟩:=wP a4;obtain⟨o0,o1,_,_,_,_,_,_,_⟩:=zK eb;have ba:=hH;clear hH;have bY:=Ha x.lw.Op;have bZ:¬ 9223372036854775807<im.Code.size+(jR x.lw.Op).size:=K9;go_upto_region 9 with(fail);refine zX (fun w'=>Rb w' ⟨g7,0,C⟩=D (V im.Code)/\Rb w' ⟨a8,0,C⟩=D (J Z x.lw.Op.Code)/\Rb w' ⟨a8,1,C⟩=D (J Z x.lw.Op.Wv)) 7 Fs (Rf (zc z0) (Rf (zc o0) (zc o1))) (fun hH=>?_);have aa:fu wc wc.drew:=(fu.refl _).drew;clear z0 o0 o1;generalize wc.drew=wx at aa hH |-;obtain⟨z0,o0,o1⟩:=id hH;refine .tk 0 [7] hH ?_;refine .tk 1 [7] hH ?_;refine .tk 2 [7] hH ?_;refine .tk 3 [7] hH ?_;refine fA.one (i:=4) Fs rfl (fun K hK=>?_);go_simp;go_at_call 162;(with_reducible refine(zv4 x.lw.Op _).mono ?_);rintro e v1 ⟨rfl,aF⟩;have a6:=aa.trans aF;have bQ:∀ j,Rx v1 ⟨g7,j,C⟩=I:=fun j=>((a6.only []).frozen a0 II j).trans (zf j);have bR:g7<v1.heap.size:=Ri a0 a6.size;have z0:=za aF z0;have o0:=za aF o0;have o1:=za aF o1;refine hK.out _ _ (Rf z0 (Rf o0 o1)) (fun hI=>?_);clear hK hH;have hH:=hI
   try simp only[lay]
   refine .tk 5 [7] hH ?_;refine .tk 6 [7] hH ?_;refine fA.last Fs rfl Fs (fun K hK=>?_);go_simp;refine hK.out _ _ ?_;clear hK
   try simp only[lay]
   have b9:=(jd (i:=0) (v:=V (im.Code++jR x.lw.Op)) (cur':=#[V (im.Code++jR x.lw.Op),G A (pM p im x).length c1]) (zj a4 a6) rfl)
   have bh:fx [g7] w2 (v1.setCell ⟨g7,0,C⟩ (V (im.Code++jR x.lw.Op))):=(hO.trans (a6.only _)).setCell (p:=⟨g7,0,C⟩) II _;have bm:fx [g7] v1 (v1.setCell ⟨g7,0,C⟩ (V (im.Code++jR x.lw.Op))):=(fx.refl _ _).setCell (p:=⟨g7,0,C⟩) II _;have aq:=(ba.fy a6).fJ bm (fun b hb hm=>by simp only[Rc] at hm;have:=a1 b hb;omega);go_upto_region 10 with(fail);clear bm ba z0 z1 zf bR bQ o0 o1 a0 eb a4;generalize (v1.setCell _ _)=W9 at b9 bh aq |-;have aS:(im.Code++jR x.lw.Op).size<=5*k+5:=by rw[Sg];omega
   generalize (im.Code++jR x.lw.Op)=cd at b9 aS aK aN aC;obtain⟨m,hm⟩:∃ m,(pM p im x).length=m+1:=⟨(pM p im x).length-1,by have:=aC.out;omega⟩
   obtain⟨q,hq⟩:∃ q,(pM p im x)[m]?=D q:=⟨_,Rn K9⟩
   have b4:=fun n=>Mt (n:=n) hm hq;have c2:0<=q.kw/\q.kw<=100000:=aN.out { q with gH:=(cd.size:Nat)-q.kw } (by rw[b4];exact Rt (i:=m) (by rw[TN K9]));have a3:=am.out;rw[hm] at a3;have aJ:=fh (aK.out.trans (by rw[b4]));generalize pM p im x=sy at b9 aq hm hq aJ;rw[hm] at b9 aq;obtain⟨gs,rfl,bF,ay,qf,q1,q2,_⟩:=IW aq hq;obtain⟨z0,z1,_,a0⟩:=wP b9;have c5:Rg Z ((cd.size:Int)-q.kw)=(cd.size:Int)-q.kw:=iw;have c4:Rg Z ((m:Int)+1-1)=(m:Int):=by rw[TB];exact iw
   have bN:Rg Z (m:Int)=(m:Int):=iw;have c0:(m:Int)<(m:Int)+1:=K9;have HM:=fh hm;have HQ:=fh hq;clear hm hq b4;refine zX (fun w'=>Rb w' ⟨g7,0,C⟩=D (V cd)/\Rb w' ⟨g7,1,C⟩=D (G (D ⟨gs,0,C⟩) (m+1) c1)/\Rb w' ⟨gs,m*3+1,C⟩=D (J Z q.kw)/\Rb w' ⟨gs,m*3+2,C⟩=D (J Z q.gH)) 21 Fs (Rf (zc z0) (Rf (zc z1) (Rf (zc q1) (zc q2)))) (fun hH=>?_);have aa:fu W9 W9.drew:=(fu.refl _).drew;clear z0 z1 q1 q2;generalize W9.drew=wx at aa hH |-;obtain⟨z0,z1,q1,q2⟩:=id hH;have c7:∀ j,Rx wx ⟨gs,j,C⟩=I:=fun j=>((aa.only []).frozen ay II j).trans (qf j);have ca:gs<wx.heap.size:=Ri ay aa.size;refine .tk 0 [21] hH ?_;refine .tk 1 [21] hH ?_;refine .tk 2 [21] hH ?_;refine .tk 3 [21] hH ?_;refine .tk 4 [21] hH ?_;refine .tk 5 [21] hH ?_;refine .tk 6 [21] hH ?_;refine .tk 7 [21] hH ?_;refine .tk 8 [21] hH ?_;refine .tk 9 [21] hH ?_;refine .tk 10 [21] hH ?_;refine .tk 11 [21] hH ?_;refine .tk 12 [21] hH ?_;refine .tk 13 [21] hH ?_;refine .tk 14 [21] hH ?_;refine .tk 15 [21] hH ?_;refine .tk 16 [21] hH ?_;refine .tk 17 [21] hH ?_;refine .tk 18 [21] hH ?_;refine .tk 19 [20,21] hH ?_;refine .tk 20 [21] hH ?_;refine fA.last Fs rfl Fs (fun K hK=>?_);go_simp;refine hK.out _ _ ?_;clear hK
   try simp only[lay]
   obtain⟨bX,a7,_,_,_,_,_,aA⟩:=IW (aq.fy aa) HQ.out;injection a7 with a7
   injection a7 with a7
   subst a7;have hp:=aA ((cd.size:Int)-q.kw) ⟨K9,K9⟩;have aR:fx [g7] w2 (wx.setCell ⟨gs,m*3+2,C⟩ (J Z ((cd.size:Int)-q.kw))):=(bh.trans (aa.only _)).then hp.2 (fun b hb=>.inr (a1 b hb));have bs:g7∉S1:=fun hm=>by have:=a1 g7 hm;omega
   have bp:=(hp.2.block g7 (Ri a0 aa.size) bs).trans (zj b9 aa);have HP:=fh hp.1;clear aA hp;go_wp2_with(fail);go_roundw
   case measure=>exact gM
   case rel=>
    refine⟨k+1,D ⟨gs,0,C⟩,c1,S1,Ar,K9,?_,?_,fh a1,fh aR⟩
    ·rw[aJ.out]
     show Hid (_=D (F #[V cd,G (D ⟨gs,0,C⟩) (sy.set m { q with gH:=(cd.size:Nat)-q.kw }).length c1] _ _));rw[RP,HM.out];exact fh bp
    ·rw[aJ.out]
     show Hid (Has _ _ [G (D ⟨gs,0,C⟩) (sy.set m { q with gH:=(cd.size:Nat)-q.kw }).length c1] (sy.set m { q with gH:=(cd.size:Nat)-q.kw }) S1);rw[RP,HM.out];exact HP
 ·obtain rfl:k=xs.length:=K9
  have bG:¬ ((xs.length:Int)<(xs.length:Int)):=K9;obtain⟨z0,z1,zf,a0⟩:=wP a4.out;have bP:=hO.out.size;have a9:=(hO.out.block g6 (by have:=(blt b8.out);omega) (by simp;exact aT)).trans b8.out;obtain⟨y0,y1,yf,bO⟩:=wP a9;have aG:fu w wr:=hO.out.fy ac.out (fun b hb=>by simp only[Rc] at hb;omega);have aI:=fh a9;clear a9;go_wp2_with(fail);have a9:=jd (i:=1) (v:=G A (lh p xs xs.length).fm.length c1) (cur':=#[V (lh p xs xs.length).Code,G A (lh p xs xs.length).fm.length c1]) (jd (i:=0) (v:=V (lh p xs xs.length).Code) (cur':=#[V (lh p xs xs.length).Code,G C 0 0]) aI.out rfl) rfl;have aw:=(aG.setRow (p:=⟨g6,0,C⟩) au (V (lh p xs xs.length).Code)).setRow (p:=⟨g6,1,C⟩) au (G A (lh p xs xs.length).fm.length c1);have bv:fx [g6] wr ((wr.setCell ⟨g6,0,C⟩ (V (lh p xs xs.length).Code)).setCell ⟨g6,1,C⟩ (G A (lh p xs xs.length).fm.length c1)):=((fx.refl _ _).setCell (p:=⟨g6,0,C⟩) II _).setCell (p:=⟨g6,1,C⟩) II _;have bg:=hH.out.fJ bv (fun b hb hm=>by simp only[Rc] at hm;have:=a1.out b hb;omega);generalize ((wr.setCell _ _).setCell _ _)=W6 at a9 aw bg |-;obtain⟨r0,r1,_,_⟩:=wP a9;exact Rj (v:=.agg #[V (lh p xs xs.length).Code,G A (lh p xs xs.length).fm.length c1]) (by simp[Rv,results105,go_sem,r0,r1]) rfl (show Jj _ w _ _ from by rw[bb.out];exact⟨A,c1,S1,rfl,bg,fun b hb=>by have:=a1.out b hb;have:=ac.out.size;omega,aw⟩)
theorem Lr (h:∀ x∈xs,qY p x):∀ x∈xs,x.lw.fB.length<=100:=fun x hx=>RG (h x hx).io K9
theorem Qw (s:N)(n:Nat):fE (mJ s n):=by
 have:=I3 s n;exact⟨K9,K9⟩
theorem PV {α:Type} {T:Ty α} {W0:U} {vs:Q Value} {x:α} (h:Has T W vs x S)(hS:∀ b∈S,W0.heap.size<=b):kC T W0 W.heap.size W vs x:=(Has.fresh (w:=W0) h hS).mW
theorem MM {p:RJ} (hne:p.block≠g)(h:Rb W ⟨g,i,C⟩=D u):(W.setCell p v).cell? ⟨g,i,C⟩=D u:=(World.cell?_setCell_far _ _ _ _ hne).trans h
theorem FA (w W:U):fU mn w W [J Z 0,G C 0 0,G C 0 0,G C 0 0,G C 0 0] ⟨0,[],[],[],[]⟩:=
 ⟨_,Fu (x:=⟨0,[],[],[],[]⟩) ⟨qo,qo⟩ (Has.nil jm 137 W).1 (Has.nil kK 205 W).1 (Has.nil lE 216 W).1 (Has.nil kE 214 W).1,List.nodup_nil,fun b hb=>by cases hb⟩
theorem zpu (hx:(zQ.sl 99).R w w.heap.size [G A p.length c] p)(hll:p.length<=1099511627776)(hs:∀ x∈p,x.fL.length<=1099511627776/\x.Expr.length<=1099511627776)(hnm:∀ x∈p,x.pu.size<=9223372036854775807) :
  RD prog 75 #[G A p.length c,.agg #[J Z b.M2,J Z b.IR,H b.Wz,H b.NE],J Z image] w (AZ (oT p b image) w):=by
 obtain⟨bF,bI,a0,bS⟩:=b;have BO:=fun w=>ye (b:=⟨bF,bI,a0,bS⟩) (w:=w);have aC:=fh BO;clear BO;have EZ:Hid (((w.alloc (F #[J Z bF,J Z bI,H a0,H bS] 71)).alloc (F #[J Z 0,G C 0 0,G C 0 0,G C 0 0,G C 0 0] 108)).heap[w.heap.size+1]?=D (F #[J Z 0,G C 0 0,G C 0 0,G C 0 0,G C 0 0] 108 (0,0))):=fh (by have h:=Re (w.alloc (F #[J Z bF,J Z bI,H a0,H bS] 71)) (F #[J Z 0,G C 0 0,G C 0 0,G C 0 0,G C 0 0] 108);rw[Rz] at h;exact h);obtain⟨cc,a5⟩:∃ cc:Bool,(zx p && jP ⟨bF,bI,a0,bS⟩ && fP image 0 1)=cc:=⟨_,rfl⟩
 cases cc with
 | false=>
  have HE:Hid (oT p ⟨bF,bI,a0,bS⟩ image=⟨0,[],[],[],[]⟩):=fh (by unfold oT;rw[Ro (fun h=>by rw[h.1,h.2.1,h.2.2] at a5;cases a5)])
  have aN:∀(pb bb ib:Bool),Hid (zx p=pb)->Hid (jP ⟨bF,bI,a0,bS⟩=bb)->Hid (fP image 0 1=ib)->(pb && bb && ib)=I->RD prog 75 #[G A p.length c,.agg #[J Z bF,J Z bI,H a0,H bS],J Z image] w (AZ (oT p ⟨bF,bI,a0,bS⟩ image) w):=by
   intro pb bb ib an al am h0;cases pb <;> cases bb <;> cases ib <;> (try (exact absurd h0 qo))
   all_goals
    clear h0 a5
    go_enter func75,ntmps75
    go_wp2_with(first | (go_at_call 102;(with_reducible refine(zaK (Ty.up _ hx gF) hll hs).mono ?_);rw[an.out];rintro e w1 ⟨rfl,a4⟩;have av:fu w w1:=fu.trans (b:=_) gF a4;have a3:=fh (zj EZ.out a4);have a2:=fh av;obtain⟨b0,b1,b2,b3,bf,bl⟩:=iL (zj (Re w (F #[J Z bF,J Z bI,H a0,H bS] 71)) (fu.trans (b:=_) gF a4));obtain⟨y0,y1,y2,y3,y4,yf,yl⟩:=jg (zj EZ.out a4)) | (go_at_call 104;(with_reducible refine(aC.out _).mono ?_);rw[al.out];rintro e w2 ⟨rfl,a1⟩;have a3:=fh (zj a3.out a1);have a2:=fh (a2.out.trans a1);have y0:=za a1 y0;have y1:=za a1 y1;have y2:=za a1 y2;have y3:=za a1 y3;have y4:=za a1 y4;have yf:=(jg (zj EZ.out (a4.trans a1))).2.2.2.2.2.1) | (go_at_call 43;(with_reducible refine(gW _ _ _ _).mono ?_);rw[am.out];rintro e w3 ⟨rfl,rfl⟩))
    obtain⟨e5,o5⟩:=tK a3.out (J Z 0) (G C 0 0) (G C 0 0) (G C 0 0) (G C 0 0)
    have az:=o5.fy a2.out (fun b hb=>by simp only[Rc] at hb;omega)
    obtain⟨r0,r1,r2,r3,r4,_,_⟩:=jg e5
    exact Rj (v:=.agg #[J Z 0,G C 0 0,G C 0 0,G C 0 0,G C 0 0]) (by simp[Rv,results75,go_sem,r0,r1,r2,r3,r4]) rfl (show AZ _ w _ _ from by rw[HE.out];exact⟨C,0,C,0,C,0,C,0,rfl,FA _ _,az⟩)
  exact aN _ _ _ (fh rfl) (fh rfl) (fh rfl) a5
 | true=>
  have ah:zx p=M:=by revert a5;cases zx p <;> simp
  have ax:jP ⟨bF,bI,a0,bS⟩=M:=by revert a5;cases jP ⟨bF,bI,a0,bS⟩ <;> simp
  have aA:fP image 0 1=M:=by revert a5;cases fP image 0 1 <;> simp
  have HE:Hid (oT p ⟨bF,bI,a0,bS⟩ image=⟨mJ (jz p ⟨bF,bI,a0,bS⟩ image).Code (jz p ⟨bF,bI,a0,bS⟩ image).Code.size,(jz p ⟨bF,bI,a0,bS⟩ image).fm,oX (jZ p ⟨bF,bI,a0,bS⟩ image),sK (jZ p ⟨bF,bI,a0,bS⟩ image),mh p (jZ p ⟨bF,bI,a0,bS⟩ image)⟩):=fh (by unfold oT;rw[Rs ⟨ah,ax,aA⟩]);have aT:=(qB ah).len;obtain⟨a7,ae,a8⟩:=BZ p ⟨bF,bI,a0,bS⟩ image
  have ac:(jz p ⟨bF,bI,a0,bS⟩ image).Code.size<=72000:=by
   rw[F8];have:=(Br (p:=p) a8 _ (Ru _)).1;omega
  have au:=fun(W:U) (h:(zQ.sl 99).R W W.heap.size [G A p.length c] p)=>zlE (w:=W) (A:=A) (c:=c) (b:=⟨bF,bI,a0,bS⟩) (image:=image) h hll hs;have aj:=fun(W:U) (h:(zQ.sl 99).R W W.heap.size [G A p.length c] p)=>zhX (w:=W) (A:=A) (c:=c) (b:=⟨bF,bI,a0,bS⟩) (image:=image) h hll hs;generalize jz p ⟨bF,bI,a0,bS⟩ image=im at HE aj ac;generalize jZ p ⟨bF,bI,a0,bS⟩ image=xs at HE au a7 ae a8;have ao:=fh au;have ak:=fh aj;have aO:=fh (Lr a7);have an:=fh ah;have al:=fh ax;have am:=fh aA;clear au aj a7 a8 ah ax aA a5;go_enter func75,ntmps75;go_upto_region 5 with(first | (go_at_call 102;(with_reducible refine(zaK (Ty.up _ hx gF) hll hs).mono ?_);rw[an.out];rintro e w1 ⟨rfl,a4⟩;have av:fu w w1:=fu.trans (b:=_) gF a4;have a3:=fh (zj EZ.out a4);have a2:=fh av;obtain⟨b0,b1,b2,b3,bf,bl⟩:=iL (zj (Re w (F #[J Z bF,J Z bI,H a0,H bS] 71)) (fu.trans (b:=_) gF a4))) | (go_at_call 104;(with_reducible refine(aC.out _).mono ?_);rw[al.out];rintro e w2 ⟨rfl,a1⟩;have a3:=fh (zj a3.out a1);have a2:=fh (a2.out.trans a1);have b0:=za a1 b0;have b1:=za a1 b1;have b2:=za a1 b2;have b3:=za a1 b3) | (go_at_call 43;(with_reducible refine(gW _ _ _ _).mono ?_);rw[am.out];rintro e w3 ⟨rfl,rfl⟩) | (go_at_call 124;(with_reducible refine(ao.out _ (Ty.up _ hx a2.out)).mono ?_);rintro e w4 ⟨A8,c8,rs,S8,rfl,aS,aR,aW,aa⟩;have a3:=fh (zj a3.out aa);have aU:=(blt a3.out);have a2:=fh (a2.out.trans aa);have b0:=za aa b0;have b1:=za aa b1;have b2:=za aa b2;have b3:=za aa b3) | (go_at_call 105;(with_reducible refine(ak.out _ (Ty.up _ hx a2.out)).mono ?_);rintro e w5 ⟨A9,c9,S9,rfl,aH,aL,ay⟩;have a3:=fh (zj a3.out ay);have a2:=fh (a2.out.trans ay)));have aw:=a3.out;have aM:=a2.out;have aQ:=Ty.up _ (aR.read aS rfl) ay;have eb:=Re w5 (F #[V im.Code,G A9 im.fm.length c9] 103);have a6:fu w5 (w5.alloc (F #[V im.Code,G A9 im.fm.length c9] 103)):=(fu.refl _).alloc _;obtain⟨g8,a9⟩:∃ g,w5.heap.size=g:=⟨_,rfl⟩
  rw[a9] at eb |-;have aV:=fh a9;have aX:=(blt aw)
  have ad:w.heap.size+1≠g8:=K9;clear a9 b0 b1 b2 b3 bf bl;generalize (w5.alloc _)=Y at eb a6 |-;obtain⟨o0,o1,_,_⟩:=wP eb;have ap:=fh (Ty.up _ aQ a6);have aP:=fh (Ty.up _ hx (aM.trans a6));go_region_held3 (fun w'=>Rb w' ⟨g8,0,C⟩=D (V im.Code)/\Rb w' ⟨g8,1,C⟩=D (G A9 im.fm.length c9)) ((repeat' apply Rf) <;> ((repeat (first | with_reducible assumption | with_reducible refine MM (by exact ad) ?_ | with_reducible refine zd ?_ _ _ | with_reducible refine zo ?_ _ | with_reducible refine zc ?_ | with_reducible refine mC ?_ _));done)) (first | (go_at_call 125;(with_reducible refine(zhv (i:=im) (A:=A9) (c:=c9) K9).mono ?_);rintro e v1 ⟨rfl,aB⟩;have aq:fu Y v1:=(fu.trans (b:=_) gF aB);have o0:=za (fu.trans (b:=_) gF aB) o0;have o1:=za (fu.trans (b:=_) gF aB) o1) | (go_at_call 126;(with_reducible refine(ztS (Ty.up _ ap.out (aq.trans gF)) K9).mono ?_);rintro e v2 ⟨A2,c2,S2,rfl,aE,aI,ai⟩;have aD:fu Y v2:=aq.trans (fu.trans (b:=_) gF ai);have o0:=za (fu.trans (b:=_) gF ai) o0;have o1:=za (fu.trans (b:=_) gF ai) o1) | (go_at_call 127;(with_reducible refine(zvn (Ty.up _ ap.out (aD.trans gF)) K9).mono ?_);rintro e v3 ⟨A3,c3,S3,rfl,aF,aJ,af⟩;have ar:fu Y v3:=aD.trans (fu.trans (b:=_) gF af);have o0:=za (fu.trans (b:=_) gF af) o0;have o1:=za (fu.trans (b:=_) gF af) o1) | (go_at_call 128;(with_reducible refine(zpk (Ty.up _ aP.out (ar.trans gF)) K9 hs hnm (Ty.up _ ap.out (ar.trans gF)) K9 aO.out).mono ?_);rintro e v4 ⟨A4,c4,S4,rfl,aG,aK,ab⟩;have ag:fu Y v4:=ar.trans (fu.trans (b:=_) gF ab);have o0:=za (fu.trans (b:=_) gF ab) o0;have o1:=za (fu.trans (b:=_) gF ab) o1;obtain⟨y0,y1,y2,y3,y4,yf,yl⟩:=jg (zj aw (a6.trans ag))))
  all_goals go_wp2_with(fail)
  obtain⟨e5,o5⟩:=tK (zj aw (a6.trans ag)) (J Z (mJ im.Code im.Code.size)) (G A9 im.fm.length c9) (G A2 (oX xs).length c2) (G A3 (sK xs).length c3) (G A4 (mh p xs).length c4);have az:=o5.fy (aM.trans (a6.trans ag)) (fun b hb=>by simp only[Rc] at hb;omega);have zY:=a6.size;have z1:=aq.size;have z2:=ai.size;have z3:=af.size;have z4:=ab.size;have q9:=(aH.fy (a6.trans ag)).fJ o5 (fun b hb hm=>by simp only[Rc] at hm;have:=aL b hb;omega);have q2:=(aE.fy (af.trans ab)).fJ o5 (fun b hb hm=>by simp only[Rc] at hm;have:=aI b hb;omega);have q3:=(aF.fy ab).fJ o5 (fun b hb hm=>by simp only[Rc] at hm;have:=aJ b hb;omega);have q4:=(aG).fJ o5 (fun b hb hm=>by simp only[Rc] at hm;have:=aK b hb;omega);obtain⟨r0,r1,r2,r3,r4,_,_⟩:=jg e5
  exact Rj (v:=.agg #[J Z (mJ im.Code im.Code.size),G A9 im.fm.length c9,G A2 (oX xs).length c2,G A3 (sK xs).length c3,G A4 (mh p xs).length c4]) (by simp[Rv,results75,go_sem,r0,r1,r2,r3,r4]) rfl (show AZ _ w _ _ from by
   rw[HE.out]
   exact⟨A9,c9,A2,c2,A3,c3,A4,c4,rfl,K7 (x:=⟨mJ im.Code im.Code.size,im.fm,oX xs,sK xs,mh p xs⟩) (u1:=w4) (m1:=w5.heap.size) (u2:=v1) (m2:=v2.heap.size) (u3:=v2) (m3:=v3.heap.size) (u4:=v3) (m4:=v4.heap.size) (Qw _ _) ⟨S9,q9.1,q9.2,fun b hb=>⟨aL b hb,aH.lt b hb⟩⟩ ⟨S2,q2.1,q2.2,fun b hb=>⟨aI b hb,aE.lt b hb⟩⟩ ⟨S3,q3.1,q3.2,fun b hb=>⟨aJ b hb,aF.lt b hb⟩⟩ ⟨S4,q4.1,q4.2,fun b hb=>⟨aK b hb,aG.lt b hb⟩⟩ K9 K9 K9 K9 (.inl K9) (.inl K9) (.inl K9) (.inl K9) (.inl K9) (.inl K9),az⟩)
end Go.Proofs.YthgbglbaemelhaaGreat
