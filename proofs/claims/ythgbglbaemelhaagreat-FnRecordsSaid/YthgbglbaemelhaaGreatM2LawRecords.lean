/-
  PART.
-/
import Derived.Test.YthgbglbaemelhaaGreatM1LawRecords
import Derived.Deep.CutRange
set_option linter.unusedVariables false
set_option linter.unusedSimpArgs false
set_option maxRecDepth 100000
set_option maxHeartbeats 8000000
namespace Go.Proofs.YthgbglbaemelhaaGreat
open Value renaming slice->J,int->C,bool->X,string->Q
open IntKind renaming i64->Z,wrap->Vl
open Option renaming none->I,some->F
open Obj renaming cells->U
open Bool renaming false->M,true->H
open Go renaming World->V,Calls->VK,Addr->VQ,TypeId->Wl,Ending->Z9,yielded->Xb
open World renaming cell?->Vg,frozen?->VE
open List renaming length_cons->VC,getElem?_cons_zero->VU,length_nil->VZ,getElem?_cons_succ->Ww
open RowKit renaming intOf->Wj
open _root_.Nat renaming add_zero->Wk
open Region renaming wanted->V6,ready->Wv,noSelect->XV,free->YI
open Tryz
open Go.RowKit
variable {A A0 A1 A2:N VQ}{B c c0 c1 c2 k n:Nat}{W w:V}{a b:Int}{bases es:D Int}{e:Wl}{i j:ii}{imgs:D ii}{s:gQ}{x:fF}
theorem vw {g:Nat} {a b c:Value} (h:W.heap[g]?=F (U #[a,b,c] e (0,0))) :
  Vg W ⟨g,0,I⟩=F a/\Vg W ⟨g,1,I⟩=F b/\Vg W ⟨g,2,I⟩=F c/\(∀ j,VE W ⟨g,j,I⟩=M)/\g<W.heap.size:=by
 refine⟨?_,?_,?_,fun j=>by simp[VE,h],(blt h)⟩
 all_goals
  rw[WC W g _ _ _ (0,0) h]
  rfl
theorem Ul {α β:Type} {xs:D α} {ys:D β} {x:α} {y:β} (hx:xs[k]?=F x)(hy:ys[k]?=F y)(f:α × β->Bool):((xs.zip ys).drop k).any f=(f (x,y) || ((xs.zip ys).drop (k+1)).any f):=by
 have h:(xs.zip ys)[k]?=F (x,y):=by
  rw[List.getElem?_zip_eq_some];exact⟨hx,hy⟩
 obtain⟨hl,he⟩:=Vh.1 h;rw[VB hl,he,List.any_cons]
theorem Uw {α:Type} {xs:D α} {x:α} (hx:xs[k]?=F x)(f:α->Bool):(xs.drop k).any f=(f x || (xs.drop (k+1)).any f):=by
 obtain⟨hl,he⟩:=Vh.1 hx;rw[VB hl,he,List.any_cons]
theorem zvg {e:Int} (h0:(jS.sl 103).R w w.heap.size [J A0 imgs.length c0] imgs)(h1:(zv.sl 3).R w w.heap.size [J A1 bases.length c1] bases)
  (hl:imgs.length=bases.length) (hst:∀ x∈imgs,∀ y∈x.fq,gE y.fA 0 1000000=H) (hbs:∀ b∈bases,gE b 1 1000000=H) (he:fQ e) :
  VK prog 88 #[.agg #[J A0 imgs.length c0,J A1 bases.length c1,J A2 es.length c2],C Z e] w fun r w'=>r=.returned (X (mg ⟨imgs,bases,es⟩ e))/\fy w w':=by
 obtain⟨_,_,a3,aJ,az⟩:=mQ h0;injection a3 with e1 e2 e3
 subst e1 e3;clear e2;obtain⟨_,_,a3,aL,aA⟩:=mQ h1;injection a3 with e1 e2 e3
 subst e1 e3;clear e2;obtain⟨aB,aC⟩:=he;have HL:=fk (Yl hl);have aF:=Yl hl;clear hl;go_enter func88,ntmps88;go_wp2_with(fail);have a2:fy w (w.alloc (U #[J A0 imgs.length c0,J A1 bases.length c1,J A2 es.length c2] 28)):=gG;have eb:=Vj w (U #[J A0 imgs.length c0,J A1 bases.length c1,J A2 es.length c2] 28);have k0:=Ty.up _ h0 a2;have k1:=Ty.up _ h1 a2;obtain⟨g0,af⟩:∃ g0,w.heap.size=g0:=⟨_,rfl⟩
 rw[af] at eb |-;generalize w.alloc _=Y at a2 eb k0 k1 |-;clear h0 h1 af;obtain⟨y0,y1,_,_,yl⟩:=vw eb;go_loopw [12] (fun x wr=>∃ k:Nat,x=C Z k/\k<=imgs.length/\Hid (((imgs.zip bases).drop k).any (fun p=>p.1.fq.any fun x=>decide (p.2+x.fA=e))=mg ⟨imgs,bases,es⟩ e)/\Hid (fy Y wr)) (fun x _=>imgs.length-(Wj x).toNat)
 case atStart=>exact⟨0,rfl,Vu _,fk rfl,fk (fy.refl _)⟩
 case round=>
  obtain⟨k,rfl,hk,hE,hG⟩:=hrel;obtain⟨os,d,rfl⟩:=hG.out;clear hG;by_cases hlt:k<imgs.length
  ·obtain⟨g,aM,x,A,c,rfl,aD,aa,a8,a9,ah,a5⟩:=vh k0 hlt
   obtain⟨gb,ap,b,rfl,ab,ae,ar,au⟩:=ma k1 (k:=k) fh;have ay:=zr.1 (hbs b (Vx ab));have ag:=hst x (Vx aa);have hz:=Ul aa ab (fun p=>p.1.fq.any fun x=>decide (p.2+x.fA=e));rw[hE.out] at hz;simp only at hz;have HZ:=fk hz;have ac:=zd a8 os d;have ad:=zd a9 os d;have aE:(k:Int)<(imgs.length:Int):=fh;have aj:(k:Int)<(bases.length:Int):=fh;obtain⟨code,a0⟩:=x;simp only at ac ad ah a5 ag HZ a8 a9;obtain⟨_,_,a3,aH,aI⟩:=mQ a5;injection a3 with e1 e2 e3
   subst e1 e3;clear e2 hz hE aa;go_wp2_with(fail);have a1:fy Y ((fH Y os d).alloc (U #[Q code,J A a0.length c] 103)):=gG;have ei:=Vj (fH Y os d) (U #[Q code,J A a0.length c] 103);obtain⟨gi,a6⟩:∃ gi,(fH Y os d).heap.size=gi:=⟨_,rfl⟩
   rw[a6] at ei;rw[mJ] at a6;rw[a6];generalize (fH Y os d).alloc _=Va at a1 ei |-;obtain⟨v0,v1,_,_,vl⟩:=mI ei;have u1:=lN a1 y1;have ul:g0<Va.heap.size:=Vn yl a1.size;have ub:=lN a1 ae;have aq:=Wf _ _ ub;simp only at aq;have ks:=Ty.up _ a5 a1;clear ac ad a8 a9 a6 a5 ae;go_loopw [20] (fun x we=>∃ m:Nat,x=C Z m/\m<=a0.length/\Hid ((a0.drop m).any (fun x=>decide (b+x.fA=e))=a0.any (fun x=>decide (b+x.fA=e)))/\Hid (fy Va we)) (fun x _=>a0.length-(Wj x).toNat)
   case atStart=>exact⟨0,rfl,Vu _,fk rfl,fk (fy.refl _)⟩
   case round=>
    obtain⟨m,rfl,hm,hI,hG⟩:=hrel;obtain⟨a4,d2,rfl⟩:=hG.out;clear hG;by_cases hml:m<a0.length
    ·obtain⟨g2,ao,y,rfl,ai,a7,al,am,an,av,aw,ax⟩:=sC ks hml
     have aK:=zr.1 (ag y (Vx a7));have ha:=Uw a7 (fun x=>decide (b+x.fA=e));rw[hI.out] at ha;have n0:=zd al a4 d2;have n1:=zd am a4 d2;have n2:=zd an a4 d2;have aN:=zd u1 a4 d2;have aO:=zd ub a4 d2;have aG:(m:Int)<(a0.length:Int):=fh;have w1:Vl Z (b+y.fA)=b+y.fA:=WI _ fh;by_cases hq:b+y.fA=e
     ·have HQ:=fk (show mg ⟨imgs,bases,es⟩ e=H from by rw[HZ.out,ha];simp[hq])
      have ak:(b+y.fA == e)=H:=by simp[hq]
      clear ha hq a7 hI;go_wp2_with(fail);go_quiet (fail);go_wp2_with(fail);go_ret;exact⟨zp HQ.out.symm,(a2.trans a1).trans gF⟩
     ·have ak:(b+y.fA == e)=M:=by simp[hq]
      have HA:=fk (show (a0.drop (m+1)).any (fun x=>decide (b+x.fA=e))=a0.any (fun x=>decide (b+x.fA=e)) from by rw[ha];simp[hq]);clear ha hq a7 hI;go_wp2_with(fail);go_quiet (fail);go_wp2_with(fail);go_roundw;exact⟨m+1,io,fh,HA,fk gG⟩;exact iC
    ·obtain rfl:m=a0.length:=fh
     have HF:=fk (show ((imgs.zip bases).drop (k+1)).any (fun p=>p.1.fq.any fun x=>decide (p.2+x.fA=e))=mg ⟨imgs,bases,es⟩ e from by
      have:=hI.out;rw[VW] at this;rw[HZ.out,<-this]
      simp)
     clear hI;go_wp2_with(fail);go_roundw;exact⟨k+1,io,fh,HF,fk (a1.trans gF)⟩;exact iC
  ·obtain rfl:k=imgs.length:=fh
   have HF:=fk (show mg ⟨imgs,bases,es⟩ e=M from by
    rw[<-hE.out,XG (by rw[List.length_zip];omega)]
    rfl)
   clear hE;go_wp2_with(fail);go_ret;exact⟨zp HF.out.symm,a2.trans gF⟩
theorem Jg (h:kI i=H):∀ y∈i.fq,gE y.fA 0 1000000=H:=by
 simp only[kI,Vt,VD] at h;intro y hy;obtain⟨_,h1,h2⟩:=Dn h.1 i.fq [] 0 0 h.2 y hy;exact pU fh fh
theorem Dw {α:Type} {l:D α} (h:l.length=2):∃ a b,l = [a,b]:=by
 match l,h with
 | [a,b],_=>exact⟨a,b,rfl⟩
theorem J7 (h:(jS.sl e).R w B [J A0 n c0] [i,j]):∃ g off A c A' c',A0=F ⟨g,off,I⟩/\g<B/\Vg w ⟨g,off,I⟩=F (Q i.Code)/\Vg w ⟨g,off+1,I⟩=F (J A i.fq.length c)/\Vg w ⟨g,off+2,I⟩=F (Q j.Code)/\Vg w ⟨g,off+2+1,I⟩=F (J A' j.fq.length c')/\
  i.Code.size<=9223372036854775807/\j.Code.size<=9223372036854775807/\(kr.sl 137).R w B [J A i.fq.length c] i.fq/\(kr.sl 137).R w B [J A' j.fq.length c'] j.fq:=by
 obtain⟨g,off,x,A,c,rfl,aa,a2,a0,a1,a6,a7⟩:=vh h (k:=0) gm;obtain⟨g',ac,y,A',c',he,ab,a5,a3,a4,a8,a9⟩:=vh h (k:=1) gm;injection he with he
 injection he with e1 e2
 subst e1 e2;simp only[VU,Ww,VO] at a2 a5;subst a2 a5;simp only[Y0,Ys,Wk] at a0 a1 a3 a4;exact⟨g,off,A,c,A',c',rfl,aa,a0,a1,a3,a4,a6,a8,a7,a9⟩
theorem Ka (h:(zv.sl e).R w B [J A0 n c0] [a,b]):∃ g off,A0=F ⟨g,off,I⟩/\Vg w ⟨g,off,I⟩=F (C Z a)/\Vg w ⟨g,off+1,I⟩=F (C Z b)/\fQ a/\fQ b:=by
 obtain⟨g,off,x,rfl,a1,a0,a3,a4⟩:=ma h (k:=0) gm;obtain⟨g',a8,y,he,a2,a7,a5,a6⟩:=ma h (k:=1) gm;injection he with he
 injection he with e1 e2
 subst e1 e2;simp only[VU,Ww,VO] at a1 a2;subst a1 a2;simp only[Wk] at a0;exact⟨g,off,rfl,a0,a7,⟨a3,a4⟩,⟨a5,a6⟩⟩
def rh (i j:ii)(a b:Int):Bool:=decide (0<i.Code.size) && decide (0<j.Code.size) && decide (a<b+j.Code.size) && decide (b<a+i.Code.size)
theorem JM {i j:ii}{a b:Int}{es:D Int}:ke ⟨[i,j],[a,b],es⟩=(gE es.length 1 6 && (kI i && kI j) && (gE a 1 1000000 && gE b 1 1000000) && !rh i j a b && es.all (mg ⟨[i,j],[a,b],es⟩)):=by
 simp[ke,Dx,rh]
theorem JL (h:s.fw.length≠2):ke s=M:=by
 unfold ke;rw[Vp h];simp
theorem JJ (h:s.fD.length≠2):ke s=M:=by
 unfold ke;rw[Vp h];simp
theorem JK (h:gE s.fm.length 1 6=M):ke s=M:=by
 unfold ke;rw[h];simp
theorem IC {e:Int} (h0:(jS.sl 103).R w w.heap.size [J A0 2 c0] [i,j])(h1:(zv.sl 3).R w w.heap.size [J A1 2 c1] [a,b])
  (hi:kI i=H) (hj:kI j=H) (ha:gE a 1 1000000=H) (hb:gE b 1 1000000=H) (he:fQ e) :
  VK prog 88 #[.agg #[J A0 2 c0,J A1 2 c1,J A2 es.length c2],C Z e] w fun r w'=>r=.returned (X (mg ⟨[i,j],[a,b],es⟩ e))/\fy w w':=
 zvg (imgs:=[i,j]) (bases:=[a,b]) h0 h1 rfl (fun x hx=>by
  simp only[VT,WB,Xy] at hx;rcases hx with rfl | rfl
  ·exact Jg hi
  ·exact Jg hj) (fun x hx=>by
  simp only[VT,WB,Xy] at hx;rcases hx with rfl | rfl
  ·exact ha
  ·exact hb) he
theorem DD {α:Type} {xs:D α} {x:α} (hx:xs[k]?=F x)(f:α->Bool):(xs.drop k).all f=(f x && (xs.drop (k+1)).all f):=by
 obtain⟨hl,he⟩:=Vh.1 hx;rw[VB hl,he,List.all_cons]
theorem wv {g:Prop} (f:g:=by
  by_cases q0:(0:Int)<(i.Code.size:Int)
  ·have r0:decide ((0:Int)<(i.Code.size:Int))=H:=Vv q0
   have s0:0<i.Code.size:=fh
   have t0:decide (0<i.Code.size)=H:=Vv s0
   by_cases q1:(0:Int)<(j.Code.size:Int)
   ·have r1:decide ((0:Int)<(j.Code.size:Int))=H:=Vv q1
    have s1:0<j.Code.size:=fh
    have t1:decide (0<j.Code.size)=H:=Vv s1
    by_cases q2:a<b+(j.Code.size:Int)
    ·have r2:decide (a<b+(j.Code.size:Int))=H:=Vv q2
     by_cases q3:b<a+(i.Code.size:Int)
     ·have r3:decide (b<a+(i.Code.size:Int))=H:=Vv q3
      go_quiet (fail)
      go_wp2_with(fail)
      go_meet
      exact⟨by unfold rh;rw[t0,t1,r2,r3];simp,fk gG⟩
     ·have r3:decide (b<a+(i.Code.size:Int))=M:=Vp q3
      go_quiet (fail)
      go_wp2_with(fail)
      go_meet
      exact⟨by unfold rh;rw[t0,t1,r2,r3];simp,fk gG⟩
    ·have r2:decide (a<b+(j.Code.size:Int))=M:=Vp q2
     go_quiet (fail)
     go_wp2_with(fail)
     go_meet
     exact⟨by unfold rh;rw[t0,t1,r2];simp,fk gG⟩
   ·have r1:decide ((0:Int)<(j.Code.size:Int))=M:=Vp q1
    have s1:¬ 0<j.Code.size:=fh
    have t1:decide (0<j.Code.size)=M:=Vp s1
    go_quiet (fail)
    go_wp2_with(fail)
    go_meet
    exact⟨by unfold rh;rw[t0,t1];simp,fk gG⟩
  ·have r0:decide ((0:Int)<(i.Code.size:Int))=M:=Vp q0
   have s0:¬ 0<i.Code.size:=fh
   have t0:decide (0<i.Code.size)=M:=Vp s0
   go_quiet (fail)
   go_wp2_with(fail)
   go_meet
   exact⟨by unfold rh;rw[t0];simp,fk gG⟩):g:=f
theorem xB {g:Prop} (f:g:=by
  have HF:=fk (show ke ⟨[i,j],[a,b],es⟩=H from by rw[HQ.out,<-hE.out,VW];rfl)
  clear hE
  go_wp2_with(fail)
  go_ret
  exact⟨zp HF.out.symm,hGc.trans gF⟩):g:=f
theorem xU {g:Prop} (f:g:=by
  have HQ:=fk (show ke ⟨[i,j],[a,b],es⟩=M from by rw[HS3.out,hv];rfl)
  clear hv
  go_wp2_with(fail)
  go_ret
  exact⟨zp HQ.out.symm,hGc⟩):g:=f
theorem zfF (h0:(jS.sl 103).R w w.heap.size [J A0 s.fw.length c0] s.fw)(h1:(zv.sl 3).R w w.heap.size [J A1 s.fD.length c1] s.fD)
  (h2:(zv.sl 3).R w w.heap.size [J A2 s.fm.length c2] s.fm) (hs:my s<=1099511627776) :
  VK prog 45 #[.agg #[J A0 s.fw.length c0,J A1 s.fD.length c1,J A2 s.fm.length c2]] w fun r w'=>r=.returned (X (ke s))/\fy w w':=by
 by_cases hi:s.fw.length=2
 case neg=>
  have HQ:=fk (JL hi);have p1:((s.fw.length:Int) != 2)=H:=by simp;omega
  clear hi;go_enter func45,ntmps45;go_wp2_with(fail);go_ret;exact⟨zp HQ.out.symm,gG⟩
 by_cases hj:s.fD.length=2
 case neg=>
  have HQ:=fk (JJ hj);have p1:((s.fw.length:Int) != 2)=M:=by simp;omega
  have p2:((s.fD.length:Int) != 2)=H:=by simp;omega
  clear hi hj;go_enter func45,ntmps45;go_wp2_with(fail);go_ret;exact⟨zp HQ.out.symm,gG⟩
 cases he:gE s.fm.length 1 6 with
 | false=>
  have HQ:=fk (JK he);have HE:=fk he;have p1:((s.fw.length:Int) != 2)=M:=by simp;omega
  have p2:((s.fD.length:Int) != 2)=M:=by simp;omega
  clear hi hj he;go_enter func45,ntmps45;go_wp2_with(go_at_call 38;refine(lf _ _ _ _).mono ?_;rw[HE.out];rintro e w1 ⟨rfl,rfl⟩);go_ret;exact⟨zp HQ.out.symm,gG⟩
 | true=>
 obtain⟨ax,am,es⟩:=s;simp only at h0 h1 h2 hi hj he hs |-;have HE:=fk he;have aE:=zr.1 he;obtain⟨i,j,rfl⟩:=Dw hi;obtain⟨a,b,rfl⟩:=Dw hj;have HS:=fk (@JM i j a b es);rw[he] at HS;clear hi hj he;obtain⟨_,_,aw,aH,aI⟩:=mQ h2;injection aw with e1 e2 e3
 subst e1 e3;clear e2;have a8:oK i+oK j+2+2+es.length<=1099511627776:=by simp[my,nQ] at hs;omega
 have ae:i.Code.size<=1099511627776:=by unfold oK at a8;omega
 have af:j.Code.size<=1099511627776:=by unfold oK at a8;omega
 have ah:i.fq.length<=1099511627776:=by unfold oK at a8;have:=BS uW i.fq;omega
 have ai:j.fq.length<=1099511627776:=by unfold oK at a8;have:=BS uW j.fq;omega
 clear a8 hs;simp only[VC,VZ] at h0 h1 |-;go_enter func45,ntmps45;go_wp2_with(go_at_call 38;refine(lf _ _ _ _).mono ?_;rw[HE.out];rintro e w1 ⟨rfl,rfl⟩);have a1:fy w (w.alloc (U #[J A0 2 c0,J A1 2 c1,J A2 es.length c2] 28)):=gG;have eb:=Vj w (U #[J A0 2 c0,J A1 2 c1,J A2 es.length c2] 28);have k0:=Ty.up _ h0 a1;have k1:=Ty.up _ h1 a1;have k2:=Ty.up _ h2 a1;obtain⟨g0,ap⟩:∃ g0,w.heap.size=g0:=⟨_,rfl⟩
 rw[ap] at eb |-;generalize w.alloc _=Y at a1 eb k0 k1 k2 |-;clear h0 h1 h2 ap;obtain⟨y0,y1,y2,_,yl⟩:=vw eb;obtain⟨gi,oi,Ai,ci,Aj,cj,rfl,aF,i0,i1,j0,j1,aC,aD,ac,ad⟩:=J7 k0;obtain⟨gb,ob,rfl,b0,b1,⟨ay,az⟩,⟨aA,aB⟩⟩:=Ka k1;have av:=Wf _ _ b0;simp only at av;go_loopw [28] (fun x wr=>((x=C Z 0)∨(x=C Z 1/\kI i=H/\gE a 1 1000000=H)∨(x=C Z 2/\kI i=H/\gE a 1 1000000=H/\kI j=H/\gE b 1 1000000=H))/\Hid (fy Y wr)) (fun x _=>2-(Wj x).toNat)
 case atStart=>exact⟨.inl rfl,fk (fy.refl _)⟩
 case round=>
  obtain⟨a5,hG⟩:=hrel;obtain⟨os,d,rfl⟩:=hG.out;clear hG;rcases a5 with rfl | ⟨rfl,a7,a4⟩ | ⟨rfl,a7,a4,ag,a9⟩
  ·have d0:=zd i0 os d
   have d1:=zd i1 os d;have d2:=zd b0 os d;have z0:=zd y0 os d;have z1:=zd y1 os d;obtain⟨ik,hk⟩:∃ ik,kI i=ik:=⟨_,rfl⟩
   cases ik with
   | false=>
    have HK:=fk hk;have HQ:=fk (show ke ⟨[i,j],[a,b],es⟩=M from by rw[HS.out,hk];simp);clear hk;go_wp2_with(go_at_call 87;refine(zfD (i:=i) (Ty.up _ ac gG) ae ah).mono ?_;rw[HK.out];rintro e w1 ⟨rfl,a3,d1,rfl⟩);go_ret;exact⟨zp HQ.out.symm,a1.trans gF⟩
   | true=>
    obtain⟨bk,hb⟩:∃ bk,gE a 1 1000000=bk:=⟨_,rfl⟩
    cases bk with
    | false=>
     have HK:=fk hk;have HB:=fk hb;have HQ:=fk (show ke ⟨[i,j],[a,b],es⟩=M from by rw[HS.out,hb];simp);clear hk hb
     go_wp2_with(first
      | (go_at_call 87;refine(zfD (i:=i) (Ty.up _ ac gG) ae ah).mono ?_;rw[HK.out];rintro e w1 ⟨rfl,a3,d1,rfl⟩)
      | (go_at_call 38;refine(lf _ _ _ _).mono ?_;rw[HB.out];rintro e w1 ⟨rfl,rfl⟩))
     go_ret;exact⟨zp HQ.out.symm,a1.trans gF⟩
    | true=>
     have HK:=fk hk;have HB:=fk hb;clear hk hb
     go_wp2_with(first
      | (go_at_call 87;refine(zfD (i:=i) (Ty.up _ ac gG) ae ah).mono ?_;rw[HK.out];rintro e w1 ⟨rfl,a3,d1,rfl⟩)
      | (go_at_call 38;refine(lf _ _ _ _).mono ?_;rw[HB.out];rintro e w1 ⟨rfl,rfl⟩))
     go_roundw;exact⟨.inr (.inl ⟨rfl,HK.out,HB.out⟩),fk gG⟩;exact iC
  ·have d0:=zd j0 os d
   have d1:=zd j1 os d;have d2:=zd b1 os d;have z0:=zd y0 os d;have z1:=zd y1 os d;obtain⟨ik,hk⟩:∃ ik,kI j=ik:=⟨_,rfl⟩
   cases ik with
   | false=>
    have HK:=fk hk;have HQ:=fk (show ke ⟨[i,j],[a,b],es⟩=M from by rw[HS.out,hk];simp);clear hk;go_wp2_with(go_at_call 87;refine(zfD (i:=j) (Ty.up _ ad gG) af ai).mono ?_;rw[HK.out];rintro e w1 ⟨rfl,a3,d1,rfl⟩);go_ret;exact⟨zp HQ.out.symm,a1.trans gF⟩
   | true=>
    obtain⟨bk,hb⟩:∃ bk,gE b 1 1000000=bk:=⟨_,rfl⟩
    cases bk with
    | false=>
     have HK:=fk hk;have HB:=fk hb;have HQ:=fk (show ke ⟨[i,j],[a,b],es⟩=M from by rw[HS.out,hb];simp);clear hk hb
     go_wp2_with(first
      | (go_at_call 87;refine(zfD (i:=j) (Ty.up _ ad gG) af ai).mono ?_;rw[HK.out];rintro e w1 ⟨rfl,a3,d1,rfl⟩)
      | (go_at_call 38;refine(lf _ _ _ _).mono ?_;rw[HB.out];rintro e w1 ⟨rfl,rfl⟩))
     go_ret;exact⟨zp HQ.out.symm,a1.trans gF⟩
    | true=>
     have HK:=fk hk;have HB:=fk hb;clear hk hb
     go_wp2_with(first
      | (go_at_call 87;refine(zfD (i:=j) (Ty.up _ ad gG) af ai).mono ?_;rw[HK.out];rintro e w1 ⟨rfl,a3,d1,rfl⟩)
      | (go_at_call 38;refine(lf _ _ _ _).mono ?_;rw[HB.out];rintro e w1 ⟨rfl,rfl⟩))
     go_roundw;exact⟨.inr (.inr ⟨rfl,a7,a4,HK.out,HB.out⟩),fk gG⟩;exact iC
  ·have aj:=zd i0 os d
   have ak:=zd j0 os d;have aa:=zd b0 os d;have ab:=zd b1 os d;have z0:=zd y0 os d;have z1:=zd y1 os d;have z2:=zd y2 os d;have ra:=zr.1 a4;have rb:=zr.1 a9;have al:ke ⟨[i,j],[a,b],es⟩=(!rh i j a b && es.all (mg ⟨[i,j],[a,b],es⟩)):=by rw[HS.out,a7,a4,ag,a9];simp
   have HS3:=fk al;clear al HS;have HI:=fk a7;have HJ:=fk ag;have HA:=fk a4;have HB:=fk a9;clear a7 a4 ag a9;go_wp2_with(fail);go_quiet (fail);have a0:fy Y ((fH Y os d).drewN nq):=gG;generalize (fH Y os d).drewN nq=Vb at a0 |-;clear aj ak aa ab z0 z1 z2;have aj:=lN a0 i0;have ak:=lN a0 j0;have aa:=lN a0 b0;have ab:=lN a0 b1;have z0:=lN a0 y0;have z1:=lN a0 y1;have z2:=lN a0 y2;have w1:Vl Z (b+(j.Code.size:Int))=b+(j.Code.size:Int):=iw;have w2:Vl Z (a+(i.Code.size:Int))=a+(i.Code.size:Int):=iw;go_upto_region 10 with fail;go_cut [91] from 60 to 91 (fun r wx=>r=X (rh i j a b)/\Hid (fy Vb wx))
   case first=>
    exact wv
   case rest=>
    obtain⟨rfl,an⟩:=hcut;have a2:fy Y wc:=a0.trans an.out;have hGc:fy w wc:=a1.trans a2;clear aj ak aa ab z0 z1 z2 a0 an;obtain⟨vb,hv⟩:∃ vb,rh i j a b=vb:=⟨_,rfl⟩
    rw[hv];cases vb with
    | true=>
     exact xU
    | false=>
     have HQ:=fk (show ke ⟨[i,j],[a,b],es⟩=es.all (mg ⟨[i,j],[a,b],es⟩) from by rw[HS3.out,hv];rfl);have z0:=lN a2 y0;have z1:=lN a2 y1;have z2:=lN a2 y2;have zl:g0<wc.heap.size:=Vn yl a2.size;have m0:=Ty.up _ k0 a2;have m1:=Ty.up _ k1 a2;have m2:=Ty.up _ k2 a2;clear hv HS3 w1 w2;go_wp2_with(fail);go_loopw [95] (fun x wr=>∃ k:Nat,x=C Z k/\k<=es.length/\Hid ((es.drop k).all (mg ⟨[i,j],[a,b],es⟩)=es.all (mg ⟨[i,j],[a,b],es⟩))/\Hid (fy wc wr)) (fun x _=>es.length-(Wj x).toNat)
     case atStart=>exact⟨0,rfl,Vu _,fk rfl,fk (fy.refl _)⟩
     case round=>
      obtain⟨k,rfl,hk,hE,hG⟩:=hrel;obtain⟨os,d,rfl⟩:=hG.out;clear hG;by_cases hlt:k<es.length
      ·obtain⟨ge,oe,e,rfl,ao,au,aq,ar⟩:=ma m2 hlt
       have ha:=DD ao (mg ⟨[i,j],[a,b],es⟩);rw[hE.out] at ha;have hc:=zd au os d;have aJ:=zd z0 os d;have aK:=zd z1 os d;have aL:=zd z2 os d;have aG:(k:Int)<(es.length:Int):=fh;have a6:fQ e:=⟨aq,ar⟩
       clear ao hE;obtain⟨vb,hv⟩:∃ vb,mg ⟨[i,j],[a,b],es⟩ e=vb:=⟨_,rfl⟩
       rw[hv] at ha;have HV:=fk hv;clear hv;cases vb with
       | false=>
        have HF:=fk (show ke ⟨[i,j],[a,b],es⟩=M from by rw[HQ.out,ha];rfl);clear ha;go_wp2_with(go_at_call 88;refine(IC (i:=i) (j:=j) (a:=a) (b:=b) (es:=es) (e:=e) (Ty.up _ m0 gG) (Ty.up _ m1 gG) HI.out HJ.out HA.out HB.out a6).mono ?_;rw[HV.out];rintro e w1 ⟨rfl,a3,d1,rfl⟩);go_ret;exact⟨zp HF.out.symm,hGc.trans gF⟩
       | true=>
        have HF:=fk (show (es.drop (k+1)).all (mg ⟨[i,j],[a,b],es⟩)=es.all (mg ⟨[i,j],[a,b],es⟩) from by rw[ha];rfl);clear ha;go_wp2_with(go_at_call 88;refine(IC (i:=i) (j:=j) (a:=a) (b:=b) (es:=es) (e:=e) (Ty.up _ m0 gG) (Ty.up _ m1 gG) HI.out HJ.out HA.out HB.out a6).mono ?_;rw[HV.out];rintro e w1 ⟨rfl,a3,d1,rfl⟩);go_roundw;exact⟨k+1,io,fh,HF,fk gG⟩;exact iC
      ·obtain rfl:k=es.length:=fh
       exact xB
theorem Kd {x:ii} (hx:imgs[k]?=F x)(hb:bases[k]?=F b)(e:Int):mG (imgs.drop k) (bases.drop k) e k=if b<=e/\e<b+x.Code.size then ((k:Int),e-b) else mG (imgs.drop (k+1)) (bases.drop (k+1)) e (k+1):=by
 obtain⟨h1,rfl⟩:=Vh.1 hx;obtain⟨h2,rfl⟩:=Vh.1 hb;rw[VB h1,VB h2];rfl
theorem Jr (bases:D Int)(e:Int)(k:Nat):mG [] bases e k=(-1,-1):=by
 cases bases <;> rfl
def F6 (p:Int × Int)(w:V)(r:Z9)(w':V):Prop:=r=.returned (.tuple #[C Z p.1,C Z p.2])/\fy w w'
theorem Lt {p q:Int × Int} (h:p=q){w w':V}(hG:fy w w'):F6 p w (.returned (.tuple #[C Z q.1,C Z q.2])) w':=by
 subst h;exact⟨rfl,hG⟩
theorem ye {g:Prop} (f:g:=by
  clear hz
  go_wp2_with(fail)
  go_quiet (fail)
  go_wp2_with(fail)
  go_roundw
  exact⟨k+1,io,fh,HE,fk gG⟩
  exact iC):g:=f
theorem zmT {e:Int} (h0:(jS.sl 103).R w w.heap.size [J A0 imgs.length c0] imgs)(h1:(zv.sl 3).R w w.heap.size [J A1 bases.length c1] bases)
  (hl:imgs.length=bases.length) (hst:∀ x∈imgs,x.Code.size<=1099511627776) (hbs:∀ b∈bases,gE b 1 1000000=H) (he:fQ e) :
  VK prog 82 #[.agg #[J A0 imgs.length c0,J A1 bases.length c1,J A2 es.length c2],C Z e] w (F6 (mG imgs bases e 0) w):=by
 obtain⟨_,_,a2,ap,ag⟩:=mQ h0;injection a2 with e1 e2 e3
 subst e1 e3;clear e2;obtain⟨_,_,a2,aq,ah⟩:=mQ h1;injection a2 with e1 e2 e3
 subst e1 e3;clear e2;obtain⟨ai,aj⟩:=he;have am:=Yl hl;clear hl;go_enter func82,ntmps82;go_wp2_with(fail);have a0:fy w (w.alloc (U #[J A0 imgs.length c0,J A1 bases.length c1,J A2 es.length c2] 28)):=gG;have eb:=Vj w (U #[J A0 imgs.length c0,J A1 bases.length c1,J A2 es.length c2] 28);have k0:=Ty.up _ h0 a0;have k1:=Ty.up _ h1 a0;obtain⟨g0,a4⟩:∃ g0,w.heap.size=g0:=⟨_,rfl⟩
 rw[a4] at eb |-;generalize w.alloc _=Y at a0 eb k0 k1 |-;clear h0 h1 a4;obtain⟨y0,y1,_,_,yl⟩:=vw eb;go_loopw [6] (fun x wr=>∃ k:Nat,x=C Z k/\k<=imgs.length/\Hid (mG (imgs.drop k) (bases.drop k) e k=mG imgs bases e 0)/\Hid (fy Y wr)) (fun x _=>imgs.length-(Wj x).toNat)
 case atStart=>exact⟨0,rfl,Vu _,fk rfl,fk (fy.refl _)⟩
 case round=>
  obtain⟨k,rfl,hk,hE,hG⟩:=hrel;obtain⟨os,d,rfl⟩:=hG.out;clear hG;by_cases hlt:k<imgs.length
  ·obtain⟨g,ar,x,A,c,rfl,ak,a3,a8,ao,ac,ad⟩:=vh k0 hlt
   obtain⟨gb,a9,b,rfl,a1,a5,aa,ab⟩:=ma k1 (k:=k) fh;have ae:=zr.1 (hbs b (Vx a1));have an:=hst x (Vx a3);have hz:=Kd a3 a1 e;rw[hE.out] at hz;have af:=zd a8 os d;have a6:=zd a5 os d;have z0:=zd y0 os d;have z1:=zd y1 os d;have al:(k:Int)<(imgs.length:Int):=fh;have a7:(k:Int)<(bases.length:Int):=fh;have w1:Vl Z (b+(x.Code.size:Int))=b+(x.Code.size:Int):=WI _ fh;clear a3 a1 hE;by_cases q0:b<=e
   ·have r0:decide (b<=e)=H:=Vv q0
    by_cases q1:e<b+(x.Code.size:Int)
    ·have r1:decide (e<b+(x.Code.size:Int))=H:=Vv q1
     have w2:Vl Z (e-b)=e-b:=WI _ fh;have HQ:=fk (show mG imgs bases e 0=((k:Int),e-b) from by rw[hz,Vs ⟨q0,q1⟩]);clear hz;go_wp2_with(fail);go_quiet (fail);go_wp2_with(fail);go_quiet (fail);go_wp2_with(fail);go_ret2;exact Lt (q:=((k:Int),e-b)) HQ.out (a0.trans gF)
    ·have r1:decide (e<b+(x.Code.size:Int))=M:=Vp q1
     have HE:=fk (show mG (imgs.drop (k+1)) (bases.drop (k+1)) e (k+1)=mG imgs bases e 0 from by rw[hz,Vo (fun h=>q1 h.2)]);exact ye
   ·have r0:decide (b<=e)=M:=Vp q0
    have HE:=fk (show mG (imgs.drop (k+1)) (bases.drop (k+1)) e (k+1)=mG imgs bases e 0 from by rw[hz,Vo (fun h=>q0 h.1)]);exact ye
  ·obtain rfl:k=imgs.length:=fh
   have HQ:=fk (show mG imgs bases e 0=(-1,-1) from by rw[<-hE.out,VW];exact Jr _ _ _);have z0:=zd y0 os d;clear hE;go_wp2_with(fail);go_ret2;exact Lt (q:=(-1,-1)) HQ.out (a0.trans gF)
theorem Tu {jR:D fR} {x:fR} (hx:jR[k]?=F x)(off:Int):oS (jR.drop k) off k=if r9 x off=H then (k:Int) else oS (jR.drop (k+1)) off (k+1):=by
 obtain⟨h1,rfl⟩:=Vh.1 hx;rw[VB h1];rfl
theorem ud {g:Prop} (f:g:=by
  clear hno hyes hb0 hb1
  go_wp2_with(go_at_call 43;refine(iU _ _ _ _).mono ?_;first | (rw[HB0.out];rintro e w1 ⟨rfl,rfl⟩) | (rw[HB1.out];rintro e w1 ⟨rfl,rfl⟩))
  go_roundw
  exact⟨j+1,io,fh,HE,fk gG⟩
  exact iC):g:=f
theorem ziy {off:Int} (h1:(kr.sl 137).R w w.heap.size [J A i.fq.length c] i.fq)(ho:fQ off) :
  VK prog 83 #[.agg #[Q i.Code,J A i.fq.length c],C Z off] w fun r w'=>r=.returned (C Z (oS i.fq off 0))/\fy w w':=by
 obtain⟨_,_,a8,ac,a7⟩:=mQ h1;injection a8 with e1 e2 e3
 subst e1 e3;clear e2;obtain⟨code,a0⟩:=i;simp only at h1 ac a7 |-;obtain⟨aj,ak⟩:=ho;go_enter func83,ntmps83;go_wp2_with(fail);have a1:fy w (w.alloc (U #[Q code,J A a0.length c] 103)):=gG;have eb:=Vj w (U #[Q code,J A a0.length c] 103);have h2:=Ty.up _ h1 a1;obtain⟨g0,a2⟩:∃ g0,w.heap.size=g0:=⟨_,rfl⟩
 rw[a2] at eb |-;generalize w.alloc _=Y at a1 eb h2 |-;clear h1 a2;obtain⟨y0,y1,_,_,yl⟩:=mI eb;go_loopw [5] (fun x wr=>∃(j:Nat),x=C Z j/\j<=a0.length/\Hid (oS (a0.drop j) off j=oS a0 off 0)/\Hid (fy Y wr)) (fun y _=>a0.length-(Wj y).toNat)
 case atStart=>exact⟨0,rfl,Vu _,fk rfl,fk (fy.refl _)⟩
 case round=>
  obtain⟨j,rfl,hj,hE,hG⟩:=hrel;obtain⟨os,d,rfl⟩:=hG.out;clear hG;by_cases hlt:j<a0.length
  ·obtain⟨g,ad,x,rfl,ah,a3,a9,aa,ab,ae,af,ag⟩:=sC h2 hlt
   have hF:=Tu a3 off;rw[hE.out] at hF;have a4:=zd a9 os d;have a5:=zd aa os d;have a6:=zd ab os d;have z0:=zd y0 os d;have z1:=zd y1 os d;have ai:(j:Int)<(a0.length:Int):=fh;clear hE a3;obtain⟨nm,st,sz⟩:=x;simp only at hF a4 a5 a6;have hno:r9 ⟨nm,st,sz⟩ off=M->oS (a0.drop (j+1)) off (j+1)=oS a0 off 0:=fun h=>by rw[hF,h];rfl
   have hyes:r9 ⟨nm,st,sz⟩ off=H->oS a0 off 0=(j:Int):=fun h=>by rw[hF,h];rfl
   clear hF;obtain⟨b0,hb0⟩:∃ b,gE st 0 1000000=b:=⟨_,rfl⟩
   obtain⟨b1,hb1⟩:∃ b,gE sz 0 1000000=b:=⟨_,rfl⟩
   have HB0:=fk hb0;have HB1:=fk hb1;cases b0 with
   | false=>
    have HE:=fk (hno (by simp[r9,hb0]));clear hno hyes hb0 hb1;go_wp2_with(go_at_call 43;refine(iU _ _ _ _).mono ?_;rw[HB0.out];rintro e w1 ⟨rfl,rfl⟩);go_roundw;exact⟨j+1,io,fh,HE,fk gG⟩;exact iC
   | true=>
    cases b1 with
    | false=>
     have HE:=fk (hno (by simp[r9,hb1]));exact ud
    | true=>
     have r0:=zr.1 hb0;have r1:=zr.1 hb1;have w1:Vl Z (st+sz)=st+sz:=iw;by_cases q2:st<=off
     case neg=>
      have s2:decide (st<=off)=M:=Vp q2;have HE:=fk (hno (by simp[r9,q2]));exact ud
     have s2:decide (st<=off)=H:=Vv q2;by_cases q3:off<st+sz
     case neg=>
      have s3:decide (off<st+sz)=M:=Vp q3;have HE:=fk (hno (by simp[r9,q3]));exact ud
     have s3:decide (off<st+sz)=H:=Vv q3;have HE:=fk (hyes (by simp[r9,q2,q3,hb0,hb1]));clear hno hyes hb0 hb1;go_wp2_with(go_at_call 43;refine(iU _ _ _ _).mono ?_;first | (rw[HB0.out];rintro e w1 ⟨rfl,rfl⟩) | (rw[HB1.out];rintro e w1 ⟨rfl,rfl⟩));go_ret;exact⟨nB HE.out.symm,a1.trans gF⟩
  ·obtain rfl:j=a0.length:=fh
   have HQ:=fk (show oS a0 off 0 = -1 from by rw[<-hE.out,VW];rfl);have z0:=zd y0 os d;have z1:=zd y1 os d;clear hE;go_wp2_with(fail);go_ret;exact⟨nB HQ.out.symm,a1.trans gF⟩
theorem Bo {e:Int} (h0:(jS.sl 103).R w w.heap.size [J A0 2 c0] [i,j])(h1:(zv.sl 3).R w w.heap.size [J A1 2 c1] [a,b])
  (hi:i.Code.size<=1099511627776) (hj:j.Code.size<=1099511627776) (ha:gE a 1 1000000=H) (hb:gE b 1 1000000=H) (he:fQ e) :
  VK prog 82 #[.agg #[J A0 2 c0,J A1 2 c1,J A2 es.length c2],C Z e] w (F6 (mG [i,j] [a,b] e 0) w):=
 zmT (imgs:=[i,j]) (bases:=[a,b]) h0 h1 rfl (fun x hx=>by
  simp only[VT,WB,Xy] at hx;rcases hx with rfl | rfl
  ·exact hi
  ·exact hj) (fun x hx=>by
  simp only[VT,WB,Xy] at hx;rcases hx with rfl | rfl
  ·exact ha
  ·exact hb) he
theorem wC {g:Prop} (f:g:=by
  go_wp2_with(fail)
  go_region_held3 (fun w'=>Vg w' ⟨g0,0,I⟩=F (J (F ⟨gi,oi,I⟩) 2 c0)/\Vg w' ⟨g0,1,I⟩=F (J (F ⟨gb,ob,I⟩) 2 c1)/\Vg w' ⟨g0,2,I⟩=F (J (F ⟨ge,oe,I⟩) es.length c2)/\Vg w' ⟨ge,oe+k,I⟩=F (C Z e)) ((repeat' apply Vm) <;> (first | ((repeat (first | assumption | with_reducible refine zd ?_ _ _ | with_reducible refine zq ?_ _ | with_reducible refine zc ?_));done) | (simp[go_sem];done))) (first
   | (go_at_call 82;refine(Bo (i:=i) (j:=j) (a:=a) (b:=b) (es:=es) (e:=e) (Ty.up _ m0 gG) (Ty.up _ m1 gG) hci hcj HA.out HB.out he64).mono ?_;rw[HL.out];rintro e w1 ⟨rfl,os1,d1,rfl⟩))
  go_wp2_with(go_at_call 83;refine(ziy (i:=j) (Ty.up _ bj1 gG) ho64).mono ?_;rw[HN.out];rintro e w2 ⟨rfl,os2,d2,rfl⟩)
  go_ret
  exact⟨zp HF.out.symm,hGc.trans gF⟩):g:=f
theorem wD {g:Prop} (f:g:=by
  go_wp2_with(fail)
  go_region_held3 (fun w'=>Vg w' ⟨g0,0,I⟩=F (J (F ⟨gi,oi,I⟩) 2 c0)/\Vg w' ⟨g0,1,I⟩=F (J (F ⟨gb,ob,I⟩) 2 c1)/\Vg w' ⟨g0,2,I⟩=F (J (F ⟨ge,oe,I⟩) es.length c2)/\Vg w' ⟨ge,oe+k,I⟩=F (C Z e)) ((repeat' apply Vm) <;> (first | ((repeat (first | assumption | with_reducible refine zd ?_ _ _ | with_reducible refine zq ?_ _ | with_reducible refine zc ?_));done) | (simp[go_sem];done))) (first
   | (go_at_call 82;refine(Bo (i:=i) (j:=j) (a:=a) (b:=b) (es:=es) (e:=e) (Ty.up _ m0 gG) (Ty.up _ m1 gG) hci hcj HA.out HB.out he64).mono ?_;rw[HL.out];rintro e w1 ⟨rfl,os1,d1,rfl⟩))
  go_wp2_with(go_at_call 83;refine(ziy (i:=i) (Ty.up _ bi1 gG) ho64).mono ?_;rw[HN.out];rintro e w2 ⟨rfl,os2,d2,rfl⟩)
  go_ret
  exact⟨zp HF.out.symm,hGc.trans gF⟩):g:=f
theorem zcj (h0:(jS.sl 103).R w w.heap.size [J A0 s.fw.length c0] s.fw)(h1:(zv.sl 3).R w w.heap.size [J A1 s.fD.length c1] s.fD)
  (h2:(zv.sl 3).R w w.heap.size [J A2 s.fm.length c2] s.fm) (hs:my s<=1099511627776) :
  VK prog 41 #[.agg #[J A0 s.fw.length c0,J A1 s.fD.length c1,J A2 s.fm.length c2]] w fun r w'=>r=.returned (X (ke s))/\fy w w':=by
 by_cases hi:s.fw.length=2
 case neg=>
  have HQ:=fk (JL hi);have p1:((s.fw.length:Int) != 2)=H:=by simp;omega
  clear hi;go_enter func41,ntmps41;go_wp2_with(fail);go_ret;exact⟨zp HQ.out.symm,gG⟩
 by_cases hj:s.fD.length=2
 case neg=>
  have HQ:=fk (JJ hj);have p1:((s.fw.length:Int) != 2)=M:=by simp;omega
  have p2:((s.fD.length:Int) != 2)=H:=by simp;omega
  clear hi hj;go_enter func41,ntmps41;go_wp2_with(fail);go_ret;exact⟨zp HQ.out.symm,gG⟩
 cases he:gE s.fm.length 1 6 with
 | false=>
  have HQ:=fk (JK he);have HE:=fk he;have p1:((s.fw.length:Int) != 2)=M:=by simp;omega
  have p2:((s.fD.length:Int) != 2)=M:=by simp;omega
  clear hi hj he;go_enter func41,ntmps41;go_wp2_with(go_at_call 43;refine(iU _ _ _ _).mono ?_;rw[HE.out];rintro e w1 ⟨rfl,rfl⟩);go_ret;exact⟨zp HQ.out.symm,gG⟩
 | true=>
 obtain⟨aR,az,es⟩:=s;simp only at h0 h1 h2 hi hj he hs |-;have HE:=fk he;have b2:=zr.1 he;obtain⟨i,j,rfl⟩:=Dw hi;obtain⟨a,b,rfl⟩:=Dw hj;have HS:=fk (@JM i j a b es);rw[he] at HS;clear hi hj he;obtain⟨_,_,aO,b4,b5⟩:=mQ h2;injection aO with e1 e2 e3
 subst e1 e3;clear e2;have ag:oK i+oK j+2+2+es.length<=1099511627776:=by simp[my,nQ] at hs;omega
 have hci:i.Code.size<=1099511627776:=by unfold oK at ag;omega
 have hcj:j.Code.size<=1099511627776:=by unfold oK at ag;omega
 have ar:i.fq.length<=1099511627776:=by unfold oK at ag;have:=BS uW i.fq;omega
 have au:j.fq.length<=1099511627776:=by unfold oK at ag;have:=BS uW j.fq;omega
 clear ag hs;simp only[VC,VZ] at h0 h1 |-;go_enter func41,ntmps41;go_wp2_with(go_at_call 43;refine(iU _ _ _ _).mono ?_;rw[HE.out];rintro e w1 ⟨rfl,rfl⟩);have a9:fy w (w.alloc (U #[J A0 2 c0,J A1 2 c1,J A2 es.length c2] 28)):=gG;have eb:=Vj w (U #[J A0 2 c0,J A1 2 c1,J A2 es.length c2] 28);have k0:=Ty.up _ h0 a9;have k1:=Ty.up _ h1 a9;have k2:=Ty.up _ h2 a9;obtain⟨g0,aD⟩:∃ g0,w.heap.size=g0:=⟨_,rfl⟩
 rw[aD] at eb |-;generalize w.alloc _=Y at a9 eb k0 k1 k2 |-;clear h0 h1 h2 aD;obtain⟨y0,y1,y2,_,yl⟩:=vw eb;obtain⟨gi,oi,Ai,ci,Aj,cj,rfl,aL,i0,i1,j0,j1,aY,aZ,bi1,bj1⟩:=J7 k0;obtain⟨gb,ob,rfl,b0,b1,⟨aU,aV⟩,⟨aW,aX⟩⟩:=Ka k1;have aK:=Wf _ _ b0;simp only at aK;go_loopw [3] (fun x wr=>((x=C Z 0)∨(x=C Z 1/\kI i=H/\gE a 1 1000000=H)∨(x=C Z 2/\kI i=H/\gE a 1 1000000=H/\kI j=H/\gE b 1 1000000=H))/\Hid (fy Y wr)) (fun x _=>2-(Wj x).toNat)
 case atStart=>exact⟨.inl rfl,fk (fy.refl _)⟩
 case round=>
  obtain⟨ad,hG⟩:=hrel;obtain⟨os,d,rfl⟩:=hG.out;clear hG;rcases ad with rfl | ⟨rfl,af,ac⟩ | ⟨rfl,af,ac,aq,ah⟩
  ·have d0:=zd i0 os d
   have d1:=zd i1 os d;have d2:=zd b0 os d;have z0:=zd y0 os d;have z1:=zd y1 os d;obtain⟨ik,hk⟩:∃ ik,kI i=ik:=⟨_,rfl⟩
   cases ik with
   | false=>
    have HK:=fk hk;have HQ:=fk (show ke ⟨[i,j],[a,b],es⟩=M from by rw[HS.out,hk];simp);clear hk;go_wp2_with(go_at_call 81;refine(zfE (i:=i) (Ty.up _ bi1 gG) hci ar).mono ?_;rw[HK.out];rintro e w1 ⟨rfl,os1,d1,rfl⟩);go_ret;exact⟨zp HQ.out.symm,a9.trans gF⟩
   | true=>
    obtain⟨bk,hb⟩:∃ bk,gE a 1 1000000=bk:=⟨_,rfl⟩
    cases bk with
    | false=>
     have HK:=fk hk;have HB:=fk hb;have HQ:=fk (show ke ⟨[i,j],[a,b],es⟩=M from by rw[HS.out,hb];simp);clear hk hb
     go_wp2_with(first
      | (go_at_call 81;refine(zfE (i:=i) (Ty.up _ bi1 gG) hci ar).mono ?_;rw[HK.out];rintro e w1 ⟨rfl,os1,d1,rfl⟩)
      | (go_at_call 43;refine(iU _ _ _ _).mono ?_;rw[HB.out];rintro e w1 ⟨rfl,rfl⟩))
     go_ret;exact⟨zp HQ.out.symm,a9.trans gF⟩
    | true=>
     have HK:=fk hk;have HB:=fk hb;clear hk hb
     go_wp2_with(first
      | (go_at_call 81;refine(zfE (i:=i) (Ty.up _ bi1 gG) hci ar).mono ?_;rw[HK.out];rintro e w1 ⟨rfl,os1,d1,rfl⟩)
      | (go_at_call 43;refine(iU _ _ _ _).mono ?_;rw[HB.out];rintro e w1 ⟨rfl,rfl⟩))
     go_roundw;exact⟨.inr (.inl ⟨rfl,HK.out,HB.out⟩),fk gG⟩;exact iC
  ·have d0:=zd j0 os d
   have d1:=zd j1 os d;have d2:=zd b1 os d;have z0:=zd y0 os d;have z1:=zd y1 os d;obtain⟨ik,hk⟩:∃ ik,kI j=ik:=⟨_,rfl⟩
   cases ik with
   | false=>
    have HK:=fk hk;have HQ:=fk (show ke ⟨[i,j],[a,b],es⟩=M from by rw[HS.out,hk];simp);clear hk;go_wp2_with(go_at_call 81;refine(zfE (i:=j) (Ty.up _ bj1 gG) hcj au).mono ?_;rw[HK.out];rintro e w1 ⟨rfl,os1,d1,rfl⟩);go_ret;exact⟨zp HQ.out.symm,a9.trans gF⟩
   | true=>
    obtain⟨bk,hb⟩:∃ bk,gE b 1 1000000=bk:=⟨_,rfl⟩
    cases bk with
    | false=>
     have HK:=fk hk;have HB:=fk hb;have HQ:=fk (show ke ⟨[i,j],[a,b],es⟩=M from by rw[HS.out,hb];simp);clear hk hb
     go_wp2_with(first
      | (go_at_call 81;refine(zfE (i:=j) (Ty.up _ bj1 gG) hcj au).mono ?_;rw[HK.out];rintro e w1 ⟨rfl,os1,d1,rfl⟩)
      | (go_at_call 43;refine(iU _ _ _ _).mono ?_;rw[HB.out];rintro e w1 ⟨rfl,rfl⟩))
     go_ret;exact⟨zp HQ.out.symm,a9.trans gF⟩
    | true=>
     have HK:=fk hk;have HB:=fk hb;clear hk hb
     go_wp2_with(first
      | (go_at_call 81;refine(zfE (i:=j) (Ty.up _ bj1 gG) hcj au).mono ?_;rw[HK.out];rintro e w1 ⟨rfl,os1,d1,rfl⟩)
      | (go_at_call 43;refine(iU _ _ _ _).mono ?_;rw[HB.out];rintro e w1 ⟨rfl,rfl⟩))
     go_roundw;exact⟨.inr (.inr ⟨rfl,af,ac,HK.out,HB.out⟩),fk gG⟩;exact iC
  ·have aw:=zd i0 os d
   have ax:=zd j0 os d;have aj:=zd b0 os d;have ak:=zd b1 os d;have z0:=zd y0 os d;have z1:=zd y1 os d;have z2:=zd y2 os d;have ra:=zr.1 ac;have rb:=zr.1 ah;have ay:ke ⟨[i,j],[a,b],es⟩=(!rh i j a b && es.all (mg ⟨[i,j],[a,b],es⟩)):=by rw[HS.out,af,ac,aq,ah];simp
   have HS3:=fk ay;clear ay HS;have HI:=fk af;have HJ:=fk aq;have HA:=fk ac;have HB:=fk ah;clear af ac aq ah;have a8:fy Y (fH Y os d):=gG;generalize fH Y os d=Vb at a8 |-;clear aw ax aj ak z0 z1 z2;have aw:=lN a8 i0;have ax:=lN a8 j0;have aj:=lN a8 b0;have ak:=lN a8 b1;have z0:=lN a8 y0;have z1:=lN a8 y1;have z2:=lN a8 y2;have w1:Vl Z (b+(j.Code.size:Int))=b+(j.Code.size:Int):=iw;have w2:Vl Z (a+(i.Code.size:Int))=a+(i.Code.size:Int):=iw;go_upto_region 10 with fail;go_cut [90] from 59 to 90 (fun r wx=>r=X (rh i j a b)/\Hid (fy Vb wx))
   case first=>
    exact wv
   case rest=>
    obtain⟨rfl,aA⟩:=hcut;have a4:fy Y wc:=a8.trans aA.out;have hGc:fy w wc:=a9.trans a4;clear aw ax aj ak z0 z1 z2 a8 aA;obtain⟨vb,hv⟩:∃ vb,rh i j a b=vb:=⟨_,rfl⟩
    rw[hv];cases vb with
    | true=>
     exact xU
    | false=>
     have HQ:=fk (show ke ⟨[i,j],[a,b],es⟩=es.all (mg ⟨[i,j],[a,b],es⟩) from by rw[HS3.out,hv];rfl);have z0:=lN a4 y0;have z1:=lN a4 y1;have z2:=lN a4 y2;have zl:g0<wc.heap.size:=Vn yl a4.size;have m0:=Ty.up _ k0 a4;have m1:=Ty.up _ k1 a4;have m2:=Ty.up _ k2 a4
     have aE:=fk (show ¬ (0<i.Code.size/\0<j.Code.size/\a<b+j.Code.size/\b<a+i.Code.size) from fun h=>by
      unfold rh at hv;rw[Vv h.1,Vv h.2.1,Vv h.2.2.1,Vv h.2.2.2] at hv
      cases hv)
     clear hv HS3 w1 w2;go_wp2_with(fail);have ai:=fk (fun e=>UA (es:=es) HI.out HJ.out (zr.1 HA.out).1 (zr.1 HB.out).1 (show ¬ (0<i.Code.size/\0<j.Code.size/\a<b+j.Code.size/\b<a+i.Code.size) from aE.out) e);have b6:=lN a4 i0;have b7:=lN a4 i1;have b8:=lN a4 j0;have b9:=lN a4 j1;have aM:gi<wc.heap.size:=Vn aL a4.size;go_loopw [6] (fun x wr=>∃ k:Nat,x=C Z k/\k<=es.length/\Hid ((es.drop k).all (mg ⟨[i,j],[a,b],es⟩)=es.all (mg ⟨[i,j],[a,b],es⟩))/\Hid (fy wc wr)) (fun x _=>es.length-(Wj x).toNat)
     case atStart=>exact⟨0,rfl,Vu _,fk rfl,fk (fy.refl _)⟩
     case round=>
      obtain⟨k,rfl,hk,hE,hG⟩:=hrel;obtain⟨os,d,rfl⟩:=hG.out;clear hG;by_cases hlt:k<es.length
      ·obtain⟨ge,oe,e,rfl,aC,aB,aF,aG⟩:=ma m2 hlt
       have ha:=DD aC (mg ⟨[i,j],[a,b],es⟩);rw[hE.out] at ha;have hc:=zd aB os d;have am:=Wf _ _ aB;simp only at am;have ba:=zd z0 os d;have bb:=zd z1 os d;have aT:=zd z2 os d;have b3:(k:Int)<(es.length:Int):=fh;have he64:fQ e:=⟨aF,aG⟩
       clear aC hE;have a6:mg ⟨[i,j],[a,b],es⟩ e=M->ke ⟨[i,j],[a,b],es⟩=M:=fun h=>by rw[HQ.out,ha,h];rfl
       have a2:mg ⟨[i,j],[a,b],es⟩ e=H->(es.drop (k+1)).all (mg ⟨[i,j],[a,b],es⟩)=es.all (mg ⟨[i,j],[a,b],es⟩):=fun h=>by rw[ha,h];rfl
       rw[<-ai.out e] at a6 a2;clear ha
       have a0:(mG [i,j] [a,b] e 0=(0,e-a)/\a<=e/\e<a+i.Code.size)∨(mG [i,j] [a,b] e 0=(1,e-b)/\b<=e/\e<b+j.Code.size)∨mG [i,j] [a,b] e 0=(-1,-1):=by
        simp only[mG];split
        ·rename_i h;exact .inl ⟨rfl,h.1,h.2⟩
        ·split
         ·rename_i h;exact .inr (.inl ⟨rfl,h.1,h.2⟩)
         ·exact .inr (.inr rfl)
       rcases a0 with⟨a0,q1,q2⟩ | ⟨a0,q1,q2⟩ | a0
       ·have HL:=fk a0
        obtain⟨a5,a1⟩:∃ a5,e-a=a5:=⟨_,rfl⟩
        have ho64:fQ a5:=⟨fh,fh⟩
        have a3:=Je i.fq a5 0;rcases a3 with a3 | ⟨m,y,a3,aa,_⟩
        ·have HF:=fk (a6 (by simp[sj,loc,a0,a1,a3];split <;> rfl))
         have HN:=fk a3;rw[a1] at HL;clear a6 a2 a0 a3 a1;exact wD
        ·rw[VJ] at a3
         have ap:m<i.fq.length:=(Vh.1 aa).1;obtain⟨gs,aS,y',al,ae,ab,aP,av,aQ,aH,aI,aJ⟩:=sC bi1 ap;subst al;obtain rfl:y'=y:=by rw[ab] at aa;exact Option.some.inj aa
         have a7:sj ⟨[i,j],[a,b],es⟩ e=decide (y'.fA=a5):=by simp[sj,loc,a0,a1,a3,ab]
         rw[a7] at a6 a2;have HN:=fk a3;rw[a1] at HL;have aN:(m:Int)<(i.fq.length:Int):=fh;have v1:=lN a4 av;have ao:gs<wc.heap.size:=Vn ae a4.size;have an:=ae;clear a0 a3 a1 ab aa a7;by_cases q3:y'.fA=a5
         ·have HF:=fk (a2 (Vv q3))
          have p3:(y'.fA != a5)=M:=by simp[q3]
          have p4:decide ((m:Int)<0)=M:=Vp fh;clear a6 a2 q3;go_wp2_with(fail)
          go_region_held3 (fun w'=>Vg w' ⟨g0,0,I⟩=F (J (F ⟨gi,oi,I⟩) 2 c0)/\Vg w' ⟨g0,1,I⟩=F (J (F ⟨gb,ob,I⟩) 2 c1)/\Vg w' ⟨g0,2,I⟩=F (J (F ⟨ge,oe,I⟩) es.length c2)/\Vg w' ⟨ge,oe+k,I⟩=F (C Z e)) ((repeat' apply Vm) <;> (first | ((repeat (first | assumption | with_reducible refine zd ?_ _ _ | with_reducible refine zq ?_ _ | with_reducible refine zc ?_));done) | (simp[go_sem];done))) (first
           | (go_at_call 82;refine(Bo (i:=i) (j:=j) (a:=a) (b:=b) (es:=es) (e:=e) (Ty.up _ m0 gG) (Ty.up _ m1 gG) hci hcj HA.out HB.out he64).mono ?_;rw[HL.out];rintro e w1 ⟨rfl,os1,d1,rfl⟩))
          go_wp2_with(go_at_call 83;refine(ziy (i:=i) (Ty.up _ bi1 gG) ho64).mono ?_;rw[HN.out];rintro e w2 ⟨rfl,os2,d2,rfl⟩);go_roundw;exact⟨k+1,io,fh,HF,fk gG⟩;exact iC
         ·have HF:=fk (a6 (Vp q3))
          have p3:(y'.fA != a5)=H:=by simp[q3]
          have p4:decide ((m:Int)<0)=M:=Vp fh;clear a6 a2 q3;exact wD
       ·have HL:=fk a0
        obtain⟨a5,a1⟩:∃ a5,e-b=a5:=⟨_,rfl⟩
        have ho64:fQ a5:=⟨fh,fh⟩
        have a3:=Je j.fq a5 0;rcases a3 with a3 | ⟨m,y,a3,aa,_⟩
        ·have HF:=fk (a6 (by simp[sj,loc,a0,a1,a3];split <;> rfl))
         have HN:=fk a3;rw[a1] at HL;clear a6 a2 a0 a3 a1;exact wC
        ·rw[VJ] at a3
         have ap:m<j.fq.length:=(Vh.1 aa).1;obtain⟨gs,aS,y',al,ae,ab,aP,av,aQ,aH,aI,aJ⟩:=sC bj1 ap;subst al;obtain rfl:y'=y:=by rw[ab] at aa;exact Option.some.inj aa
         have a7:sj ⟨[i,j],[a,b],es⟩ e=decide (y'.fA=a5):=by simp[sj,loc,a0,a1,a3,ab]
         rw[a7] at a6 a2;have HN:=fk a3;rw[a1] at HL;have aN:(m:Int)<(j.fq.length:Int):=fh;have v1:=lN a4 av;have ao:gs<wc.heap.size:=Vn ae a4.size;have an:=ae;clear a0 a3 a1 ab aa a7;by_cases q3:y'.fA=a5
         ·have HF:=fk (a2 (Vv q3))
          have p3:(y'.fA != a5)=M:=by simp[q3]
          have p4:decide ((m:Int)<0)=M:=Vp fh;clear a6 a2 q3;go_wp2_with(fail)
          go_region_held3 (fun w'=>Vg w' ⟨g0,0,I⟩=F (J (F ⟨gi,oi,I⟩) 2 c0)/\Vg w' ⟨g0,1,I⟩=F (J (F ⟨gb,ob,I⟩) 2 c1)/\Vg w' ⟨g0,2,I⟩=F (J (F ⟨ge,oe,I⟩) es.length c2)/\Vg w' ⟨ge,oe+k,I⟩=F (C Z e)) ((repeat' apply Vm) <;> (first | ((repeat (first | assumption | with_reducible refine zd ?_ _ _ | with_reducible refine zq ?_ _ | with_reducible refine zc ?_));done) | (simp[go_sem];done))) (first
           | (go_at_call 82;refine(Bo (i:=i) (j:=j) (a:=a) (b:=b) (es:=es) (e:=e) (Ty.up _ m0 gG) (Ty.up _ m1 gG) hci hcj HA.out HB.out he64).mono ?_;rw[HL.out];rintro e w1 ⟨rfl,os1,d1,rfl⟩))
          go_wp2_with(go_at_call 83;refine(ziy (i:=j) (Ty.up _ bj1 gG) ho64).mono ?_;rw[HN.out];rintro e w2 ⟨rfl,os2,d2,rfl⟩);go_roundw;exact⟨k+1,io,fh,HF,fk gG⟩;exact iC
         ·have HF:=fk (a6 (Vp q3))
          have p3:(y'.fA != a5)=H:=by simp[q3]
          have p4:decide ((m:Int)<0)=M:=Vp fh;clear a6 a2 q3;exact wC
       ·have HL:=fk a0
        have HF:=fk (a6 (by simp[sj,loc,a0]));clear a6 a2 a0;go_wp2_with(fail)
        go_region_held3 (fun w'=>Vg w' ⟨g0,0,I⟩=F (J (F ⟨gi,oi,I⟩) 2 c0)/\Vg w' ⟨g0,1,I⟩=F (J (F ⟨gb,ob,I⟩) 2 c1)/\Vg w' ⟨g0,2,I⟩=F (J (F ⟨ge,oe,I⟩) es.length c2)/\Vg w' ⟨ge,oe+k,I⟩=F (C Z e)) ((repeat' apply Vm) <;> (first | ((repeat (first | assumption | with_reducible refine zd ?_ _ _ | with_reducible refine zq ?_ _ | with_reducible refine zc ?_));done) | (simp[go_sem];done))) (first
         | (go_at_call 82;refine(Bo (i:=i) (j:=j) (a:=a) (b:=b) (es:=es) (e:=e) (Ty.up _ m0 gG) (Ty.up _ m1 gG) hci hcj HA.out HB.out he64).mono ?_;rw[HL.out];rintro e w1 ⟨rfl,os1,d1,rfl⟩))
        go_wp2_with(fail);go_ret;exact⟨zp HF.out.symm,hGc.trans gF⟩
      ·obtain rfl:k=es.length:=fh
       have aT:=zd z2 os d;exact xB
def Ho (x:fF)(w:V)(r:Z9)(w':V):Prop:=∃ A0 c0 A1 c1,r=.returned (.agg #[C Z x.Pc,C Z x.Sp,C Z x.Fp,J A0 x.fK.length c0,J A1 x.iE.length c1,C Z x.fY,C Z x.Value])/\gH lQ w w' [C Z x.Pc,C Z x.Sp,C Z x.Fp,J A0 x.fK.length c0,J A1 x.iE.length c1,C Z x.fY,C Z x.Value] x/\fy w w'
theorem Co {S3:D Nat} {S4:D Nat} (h0:fQ x.Pc)(h1:fQ x.Sp)(h2:fQ x.Fp)(h3:(zv.sl 3).O w [J A0 x.fK.length c0] x.fK S3)(h4:(zv.sl 3).O w [J A1 x.iE.length c1] x.iE S4)(h5:fQ x.fY)(h6:fQ x.Value):lQ.O w [C Z x.Pc,C Z x.Sp,C Z x.Fp,J A0 x.fK.length c0,J A1 x.iE.length c1,C Z x.fY,C Z x.Value] x (S3++S4):=by
 have h:lQ.O w [C Z x.Pc,C Z x.Sp,C Z x.Fp,J A0 x.fK.length c0,J A1 x.iE.length c1,C Z x.fY,C Z x.Value] x ([]++([]++([]++(S3++(S4++([]++[])))))):=⟨[C Z x.Pc],[C Z x.Sp,C Z x.Fp,J A0 x.fK.length c0,J A1 x.iE.length c1,C Z x.fY,C Z x.Value],[],([]++([]++(S3++(S4++([]++[]))))),rfl,rfl,⟨rfl,h0.1,h0.2,rfl⟩,⟨[C Z x.Sp],[C Z x.Fp,J A0 x.fK.length c0,J A1 x.iE.length c1,C Z x.fY,C Z x.Value],[],([]++(S3++(S4++([]++[])))),rfl,rfl,⟨rfl,h1.1,h1.2,rfl⟩,⟨[C Z x.Fp],[J A0 x.fK.length c0,J A1 x.iE.length c1,C Z x.fY,C Z x.Value],[],(S3++(S4++([]++[]))),rfl,rfl,⟨rfl,h2.1,h2.2,rfl⟩,⟨[J A0 x.fK.length c0],[J A1 x.iE.length c1,C Z x.fY,C Z x.Value],S3,(S4++([]++[])),rfl,rfl,h3,⟨[J A1 x.iE.length c1],[C Z x.fY,C Z x.Value],S4,([]++[]),rfl,rfl,h4,⟨[C Z x.fY],[C Z x.Value],[],[],rfl,rfl,⟨rfl,h5.1,h5.2,rfl⟩,⟨rfl,h6.1,h6.2,rfl⟩⟩⟩⟩⟩⟩⟩
 simpa using h
theorem DY {u3 u4:V} {m3 m4:Nat} (h0:fQ x.Pc)(h1:fQ x.Sp)(h2:fQ x.Fp)(h3:kN (zv.sl 3) u3 m3 W [J A0 x.fK.length c0] x.fK)(h4:kN (zv.sl 3) u4 m4 W [J A1 x.iE.length c1] x.iE)(h5:fQ x.fY)(h6:fQ x.Value)(hw3:w.heap.size<=u3.heap.size)(hw4:w.heap.size<=u4.heap.size)(hd3_4:m3<=u4.heap.size∨m4<=u3.heap.size):gH lQ w W [C Z x.Pc,C Z x.Sp,C Z x.Fp,J A0 x.fK.length c0,J A1 x.iE.length c1,C Z x.fY,C Z x.Value] x:=by
 obtain⟨S3,a4,a2,a0⟩:=h3;obtain⟨S4,a5,a3,a1⟩:=h4;exact⟨_,Co h0 h1 h2 a4 a5 h5 h6,Wb.2 ⟨a2,a3,fun a ha b hb=>(by have h1:=a0 a ha;have h2:=a1 b hb;omega)⟩,fun b hb=>(VA.1 hb).elim (fun hb=>(by have:=a0 b hb;omega)) (fun hb=>(by have:=a1 b hb;omega))⟩
def mM (x:fF):Nat:=x.fK.length+x.iE.length
theorem Bz {xs:D fF} (h:(lQ.sl e).R w B [J A n c] xs){k:Nat}(hk:k<xs.length) :
  ∃ g off x A0 c0 A1 c1,A=F ⟨g,off,I⟩/\g<B/\xs[k]?=F x/\Vg w ⟨g,off+k*7,I⟩=F (C Z x.Pc)/\Vg w ⟨g,off+k*7+1,I⟩=F (C Z x.Sp)/\Vg w ⟨g,off+k*7+2,I⟩=F (C Z x.Fp)/\Vg w ⟨g,off+k*7+3,I⟩=F (J A0 x.fK.length c0)/\Vg w ⟨g,off+k*7+4,I⟩=F (J A1 x.iE.length c1)/\Vg w ⟨g,off+k*7+5,I⟩=F (C Z x.fY)/\Vg w ⟨g,off+k*7+6,I⟩=F (C Z x.Value)/\fQ x.Pc/\fQ x.Sp/\fQ x.Fp/\(zv.sl 3).R w B [J A0 x.fK.length c0] x.fK/\(zv.sl 3).R w B [J A1 x.iE.length c1] x.iE/\fQ x.fY/\fQ x.Value:=by
 obtain⟨g,off,x,ec,h1,hB,h2,h3,h4⟩:=pz h hk;obtain⟨A0,c0,A1,c1,rfl,hf⟩:=Jf h3;exact⟨g,off,x,A0,c0,A1,c1,h1,hB,h2,h4 0 _ rfl,h4 1 _ rfl,h4 2 _ rfl,h4 3 _ rfl,h4 4 _ rfl,h4 5 _ rfl,h4 6 _ rfl,hf⟩
theorem MJ:(prog.info? 41).map (fun i=>(i.zero,i.size,i.bytes))=F (F (.agg #[C Z 0,C Z 0,C Z 0,J I 0 0,J I 0 0,C Z 0,C Z 0]),7,88):=gU
theorem JT:iZ prog 32 41 lQ 88:=by
 obtain⟨i0,hi,a0,a1,a2⟩:=Xt MJ;exact⟨underlying32,⟨i0,_,hi,a0,a1,a2,rfl⟩,gv⟩
end Go.Proofs.YthgbglbaemelhaaGreat
