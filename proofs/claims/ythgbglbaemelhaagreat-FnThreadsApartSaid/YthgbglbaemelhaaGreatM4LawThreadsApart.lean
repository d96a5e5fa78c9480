/-
  PART.
-/
import Derived.Test.YthgbglbaemelhaaGreatM3LawThreadsApart
import Derived.Deep.CutRange
set_option linter.unusedVariables false
set_option linter.unusedSimpArgs false
set_option maxRecDepth 100000
set_option maxHeartbeats 8000000
namespace Go.Proofs.YthgbglbaemelhaaGreat
open Value renaming slice->G,int->J,bool->H,string->V
open IntKind renaming i64->Z,wrap->Rg
open Option renaming none->C,some->D
open Obj renaming cells->F
open Bool renaming false->I,true->M
open Go renaming World->U,Calls->RD,Addr->RJ,TypeId->R5,yielded->Th
open World renaming cell?->Rb,frozen?->Rx
open List renaming length_cons->RA,length_nil->RR,getElem?_cons_zero->RW,getElem?_cons_succ->Tg
open RowKit renaming intOf->RS
open _root_.Nat renaming add_zero->Sr
open Region renaming wanted->RV,ready->Sn,noSelect->TZ,free->Wu
open Tryz
open Go.RowKit
variable {A A0 A1 A2:X RJ}{B c c0 c1 c2 k n:Nat}{W w:U}{a b e:Int}{bases es:Q Int}{i j:gv}{imgs:Q gv}{s:gk}{x:fv}
theorem sQ {g:Nat} {a b c:Value} {e:R5} (h:W.heap[g]?=D (F #[a,b,c] e (0,0))) :
  Rb W ⟨g,0,C⟩=D a/\Rb W ⟨g,1,C⟩=D b/\Rb W ⟨g,2,C⟩=D c/\(∀ j,Rx W ⟨g,j,C⟩=I)/\g<W.heap.size:=by
 refine⟨?_,?_,?_,fun j=>by simp[Rx,h],(blt h)⟩
 all_goals
  rw[Sw W g _ _ _ (0,0) h]
  rfl
theorem QC {α β:Type} {xs:Q α} {ys:Q β} {x:α} {y:β} (hx:xs[k]?=D x)(hy:ys[k]?=D y)(f:α × β->Bool):((xs.zip ys).drop k).any f=(f (x,y) || ((xs.zip ys).drop (k+1)).any f):=by
 have h:(xs.zip ys)[k]?=D (x,y):=by
  rw[List.getElem?_zip_eq_some];exact⟨hx,hy⟩
 obtain⟨hl,he⟩:=Rd.1 h;rw[Rw hl,he,List.any_cons]
theorem PE {α:Type} {xs:Q α} {x:α} (hx:xs[k]?=D x)(f:α->Bool):(xs.drop k).any f=(f x || (xs.drop (k+1)).any f):=by
 obtain⟨hl,he⟩:=Rd.1 hx;rw[Rw hl,he,List.any_cons]
theorem ztt (h0:(iG.sl 103).R w w.heap.size [G A0 imgs.length c0] imgs)(h1:(zr.sl 3).R w w.heap.size [G A1 bases.length c1] bases)
  (hl:imgs.length=bases.length) (hst:∀ x∈imgs,∀ y∈x.fm,fP y.kw 0 1000000=M) (hbs:∀ b∈bases,fP b 1 1000000=M) (he:fE e) :
  RD prog 88 #[.agg #[G A0 imgs.length c0,G A1 bases.length c1,G A2 es.length c2],J Z e] w fun r w'=>r=.returned (H (kI ⟨imgs,bases,es⟩ e))/\fu w w':=by
 obtain⟨_,_,a3,aJ,az⟩:=kJ h0;injection a3 with e1 e2 e3
 subst e1 e3;clear e2;obtain⟨_,_,a3,aL,aA⟩:=kJ h1;injection a3 with e1 e2 e3
 subst e1 e3;clear e2;obtain⟨aB,aC⟩:=he;have HL:=fh (Ua hl);have aF:=Ua hl;clear hl;go_enter func88,ntmps88;go_wp2_with(fail);have a2:fu w (w.alloc (F #[G A0 imgs.length c0,G A1 bases.length c1,G A2 es.length c2] 28)):=gG;have eb:=Re w (F #[G A0 imgs.length c0,G A1 bases.length c1,G A2 es.length c2] 28);have k0:=Ty.up _ h0 a2;have k1:=Ty.up _ h1 a2;obtain⟨g0,af⟩:∃ g0,w.heap.size=g0:=⟨_,rfl⟩
 rw[af] at eb |-;generalize w.alloc _=Y at a2 eb k0 k1 |-;clear h0 h1 af;obtain⟨y0,y1,_,_,yl⟩:=sQ eb;go_loopw [12] (fun x wr=>∃ k:Nat,x=J Z k/\k<=imgs.length/\Hid (((imgs.zip bases).drop k).any (fun p=>p.1.fm.any fun x=>decide (p.2+x.kw=e))=kI ⟨imgs,bases,es⟩ e)/\Hid (fu Y wr)) (fun x _=>imgs.length-(RS x).toNat)
 case atStart=>exact⟨0,rfl,Rl _,fh rfl,fh (fu.refl _)⟩
 case round=>
  obtain⟨k,rfl,hk,hE,hG⟩:=hrel;obtain⟨os,d,rfl⟩:=hG.out;clear hG;by_cases hlt:k<imgs.length
  ·obtain⟨g,aM,x,A,c,rfl,aD,aa,a8,a9,ah,a5⟩:=qI k0 hlt
   obtain⟨gb,ap,b,rfl,ab,ae,ar,au⟩:=lJ k1 (k:=k) K9;have ay:=zu.1 (hbs b (Rt ab));have ag:=hst x (Rt aa);have hz:=QC aa ab (fun p=>p.1.fm.any fun x=>decide (p.2+x.kw=e));rw[hE.out] at hz;simp only at hz;have HZ:=fh hz;have ac:=zd a8 os d;have ad:=zd a9 os d;have aE:(k:Int)<(imgs.length:Int):=K9;have aj:(k:Int)<(bases.length:Int):=K9;obtain⟨code,a0⟩:=x;simp only at ac ad ah a5 ag HZ a8 a9;obtain⟨_,_,a3,aH,aI⟩:=kJ a5;injection a3 with e1 e2 e3
   subst e1 e3;clear e2 hz hE aa;go_wp2_with(fail);have a1:fu Y ((fy Y os d).alloc (F #[V code,G A a0.length c] 103)):=gG;have ei:=Re (fy Y os d) (F #[V code,G A a0.length c] 103);obtain⟨gi,a6⟩:∃ gi,(fy Y os d).heap.size=gi:=⟨_,rfl⟩
   rw[a6] at ei;rw[kH] at a6;rw[a6];generalize (fy Y os d).alloc _=Q7 at a1 ei |-;obtain⟨v0,v1,_,_,vl⟩:=jT ei;have u1:=jX a1 y1;have ul:g0<Q7.heap.size:=Ri yl a1.size;have ub:=jX a1 ae;have aq:=R7 _ _ ub;simp only at aq;have ks:=Ty.up _ a5 a1;clear ac ad a8 a9 a6 a5 ae;go_loopw [20] (fun x we=>∃ m:Nat,x=J Z m/\m<=a0.length/\Hid ((a0.drop m).any (fun x=>decide (b+x.kw=e))=a0.any (fun x=>decide (b+x.kw=e)))/\Hid (fu Q7 we)) (fun x _=>a0.length-(RS x).toNat)
   case atStart=>exact⟨0,rfl,Rl _,fh rfl,fh (fu.refl _)⟩
   case round=>
    obtain⟨m,rfl,hm,hI,hG⟩:=hrel;obtain⟨a4,d2,rfl⟩:=hG.out;clear hG;by_cases hml:m<a0.length
    ·obtain⟨g2,ao,y,rfl,ai,a7,al,am,an,av,aw,ax⟩:=qD ks hml
     have aK:=zu.1 (ag y (Rt a7));have ha:=PE a7 (fun x=>decide (b+x.kw=e));rw[hI.out] at ha;have n0:=zd al a4 d2;have n1:=zd am a4 d2;have n2:=zd an a4 d2;have aN:=zd u1 a4 d2;have aO:=zd ub a4 d2;have aG:(m:Int)<(a0.length:Int):=K9;have w1:Rg Z (b+y.kw)=b+y.kw:=SG _ K9;by_cases hq:b+y.kw=e
     ·have HQ:=fh (show kI ⟨imgs,bases,es⟩ e=M from by rw[HZ.out,ha];simp[hq])
      have ak:(b+y.kw == e)=M:=by simp[hq]
      clear ha hq a7 hI;go_wp2_with(fail);go_quiet (fail);go_wp2_with(fail);go_ret;exact⟨zp HQ.out.symm,(a2.trans a1).trans gF⟩
     ·have ak:(b+y.kw == e)=I:=by simp[hq]
      have HA:=fh (show (a0.drop (m+1)).any (fun x=>decide (b+x.kw=e))=a0.any (fun x=>decide (b+x.kw=e)) from by rw[ha];simp[hq]);clear ha hq a7 hI;go_wp2_with(fail);go_quiet (fail);go_wp2_with(fail);go_roundw;exact⟨m+1,Ar,K9,HA,fh gG⟩;exact gM
    ·obtain rfl:m=a0.length:=K9
     have HF:=fh (show ((imgs.zip bases).drop (k+1)).any (fun p=>p.1.fm.any fun x=>decide (p.2+x.kw=e))=kI ⟨imgs,bases,es⟩ e from by
      have:=hI.out;rw[RL] at this;rw[HZ.out,<-this]
      simp)
     clear hI;go_wp2_with(fail);go_roundw;exact⟨k+1,Ar,K9,HF,fh (a1.trans gF)⟩;exact gM
  ·obtain rfl:k=imgs.length:=K9
   have HF:=fh (show kI ⟨imgs,bases,es⟩ e=I from by
    rw[<-hE.out,Tw (by rw[List.length_zip];omega)]
    rfl)
   clear hE;go_wp2_with(fail);go_ret;exact⟨zp HF.out.symm,a2.trans gF⟩
theorem GR (h:jw i=M):∀ y∈i.fm,fP y.kw 0 1000000=M:=by
 simp only[jw,Rq,RC] at h;intro y hy;obtain⟨_,h1,h2⟩:=AR h.1 i.fm [] 0 0 h.2 y hy;exact oz K9 K9
theorem Bk {α:Type} {l:Q α} (h:l.length=2):∃ a b,l = [a,b]:=by
 match l,h with
 | [a,b],_=>exact⟨a,b,rfl⟩
theorem F9 {e:R5} (h:(iG.sl e).R w B [G A0 n c0] [i,j]):∃ g off A c A' c',A0=D ⟨g,off,C⟩/\g<B/\Rb w ⟨g,off,C⟩=D (V i.Code)/\Rb w ⟨g,off+1,C⟩=D (G A i.fm.length c)/\Rb w ⟨g,off+2,C⟩=D (V j.Code)/\Rb w ⟨g,off+2+1,C⟩=D (G A' j.fm.length c')/\
  i.Code.size<=9223372036854775807/\j.Code.size<=9223372036854775807/\(jm.sl 137).R w B [G A i.fm.length c] i.fm/\(jm.sl 137).R w B [G A' j.fm.length c'] j.fm:=by
 obtain⟨g,off,x,A,c,rfl,aa,a2,a0,a1,a6,a7⟩:=qI h (k:=0) II;obtain⟨g',ac,y,A',c',he,ab,a5,a3,a4,a8,a9⟩:=qI h (k:=1) II;injection he with he
 injection he with e1 e2
 subst e1 e2;simp only[RW,Tg,RT] at a2 a5;subst a2 a5;simp only[UT,Ur,Sr] at a0 a1 a3 a4;exact⟨g,off,A,c,A',c',rfl,aa,a0,a1,a3,a4,a6,a8,a7,a9⟩
theorem Ho {e:R5} (h:(zr.sl e).R w B [G A0 n c0] [a,b]):∃ g off,A0=D ⟨g,off,C⟩/\Rb w ⟨g,off,C⟩=D (J Z a)/\Rb w ⟨g,off+1,C⟩=D (J Z b)/\fE a/\fE b:=by
 obtain⟨g,off,x,rfl,a1,a0,a3,a4⟩:=lJ h (k:=0) II;obtain⟨g',a8,y,he,a2,a7,a5,a6⟩:=lJ h (k:=1) II;injection he with he
 injection he with e1 e2
 subst e1 e2;simp only[RW,Tg,RT] at a1 a2;subst a1 a2;simp only[Sr] at a0;exact⟨g,off,rfl,a0,a7,⟨a3,a4⟩,⟨a5,a6⟩⟩
def px (i j:gv)(a b:Int):Bool:=decide (0<i.Code.size) && decide (0<j.Code.size) && decide (a<b+j.Code.size) && decide (b<a+i.Code.size)
theorem GQ {i j:gv}{a b:Int}{es:Q Int}:zZ ⟨[i,j],[a,b],es⟩=(fP es.length 1 6 && (jw i && jw j) && (fP a 1 1000000 && fP b 1 1000000) && !px i j a b && es.all (kI ⟨[i,j],[a,b],es⟩)):=by
 simp[zZ,Bl,px]
theorem GP (h:s.fo.length≠2):zZ s=I:=by
 unfold zZ;rw[Rk h];simp
theorem GN (h:s.ft.length≠2):zZ s=I:=by
 unfold zZ;rw[Rk h];simp
theorem GO (h:fP s.ii.length 1 6=I):zZ s=I:=by
 unfold zZ;rw[h];simp
theorem F0 (h0:(iG.sl 103).R w w.heap.size [G A0 2 c0] [i,j])(h1:(zr.sl 3).R w w.heap.size [G A1 2 c1] [a,b])
  (hi:jw i=M) (hj:jw j=M) (ha:fP a 1 1000000=M) (hb:fP b 1 1000000=M) (he:fE e) :
  RD prog 88 #[.agg #[G A0 2 c0,G A1 2 c1,G A2 es.length c2],J Z e] w fun r w'=>r=.returned (H (kI ⟨[i,j],[a,b],es⟩ e))/\fu w w':=
 ztt (imgs:=[i,j]) (bases:=[a,b]) h0 h1 rfl (fun x hx=>by
  simp only[RO,Sq,Tm] at hx;rcases hx with rfl | rfl
  ·exact GR hi
  ·exact GR hj) (fun x hx=>by
  simp only[RO,Sq,Tm] at hx;rcases hx with rfl | rfl
  ·exact ha
  ·exact hb) he
theorem yE {α:Type} {xs:Q α} {x:α} (hx:xs[k]?=D x)(f:α->Bool):(xs.drop k).all f=(f x && (xs.drop (k+1)).all f):=by
 obtain⟨hl,he⟩:=Rd.1 hx;rw[Rw hl,he,List.all_cons]
theorem WW {g:Prop} (f:g:=by
  by_cases q0:(0:Int)<(i.Code.size:Int)
  ·have r0:decide ((0:Int)<(i.Code.size:Int))=M:=Rp q0
   have s0:0<i.Code.size:=K9
   have t0:decide (0<i.Code.size)=M:=Rp s0
   by_cases q1:(0:Int)<(j.Code.size:Int)
   ·have r1:decide ((0:Int)<(j.Code.size:Int))=M:=Rp q1
    have s1:0<j.Code.size:=K9
    have t1:decide (0<j.Code.size)=M:=Rp s1
    by_cases q2:a<b+(j.Code.size:Int)
    ·have r2:decide (a<b+(j.Code.size:Int))=M:=Rp q2
     by_cases q3:b<a+(i.Code.size:Int)
     ·have r3:decide (b<a+(i.Code.size:Int))=M:=Rp q3
      go_quiet (fail)
      go_wp2_with(fail)
      go_meet
      exact⟨by unfold px;rw[t0,t1,r2,r3];simp,fh gG⟩
     ·have r3:decide (b<a+(i.Code.size:Int))=I:=Rk q3
      go_quiet (fail)
      go_wp2_with(fail)
      go_meet
      exact⟨by unfold px;rw[t0,t1,r2,r3];simp,fh gG⟩
    ·have r2:decide (a<b+(j.Code.size:Int))=I:=Rk q2
     go_quiet (fail)
     go_wp2_with(fail)
     go_meet
     exact⟨by unfold px;rw[t0,t1,r2];simp,fh gG⟩
   ·have r1:decide ((0:Int)<(j.Code.size:Int))=I:=Rk q1
    have s1:¬ 0<j.Code.size:=K9
    have t1:decide (0<j.Code.size)=I:=Rk s1
    go_quiet (fail)
    go_wp2_with(fail)
    go_meet
    exact⟨by unfold px;rw[t0,t1];simp,fh gG⟩
  ·have r0:decide ((0:Int)<(i.Code.size:Int))=I:=Rk q0
   have s0:¬ 0<i.Code.size:=K9
   have t0:decide (0<i.Code.size)=I:=Rk s0
   go_quiet (fail)
   go_wp2_with(fail)
   go_meet
   exact⟨by unfold px;rw[t0];simp,fh gG⟩):g:=f
theorem vC {g:Prop} (f:g:=by
  have HF:=fh (show zZ ⟨[i,j],[a,b],es⟩=M from by rw[HQ.out,<-hE.out,RL];rfl)
  clear hE
  go_wp2_with(fail)
  go_ret
  exact⟨zp HF.out.symm,hGc.trans gF⟩):g:=f
theorem vN {g:Prop} (f:g:=by
  have HQ:=fh (show zZ ⟨[i,j],[a,b],es⟩=I from by rw[HS3.out,hv];rfl)
  clear hv
  go_wp2_with(fail)
  go_ret
  exact⟨zp HQ.out.symm,hGc⟩):g:=f
theorem ze1 (h0:(iG.sl 103).R w w.heap.size [G A0 s.fo.length c0] s.fo)(h1:(zr.sl 3).R w w.heap.size [G A1 s.ft.length c1] s.ft)
  (h2:(zr.sl 3).R w w.heap.size [G A2 s.ii.length c2] s.ii) (hs:jE s<=1099511627776) :
  RD prog 45 #[.agg #[G A0 s.fo.length c0,G A1 s.ft.length c1,G A2 s.ii.length c2]] w fun r w'=>r=.returned (H (zZ s))/\fu w w':=by
 by_cases hi:s.fo.length=2
 case neg=>
  have HQ:=fh (GP hi);have p1:((s.fo.length:Int) != 2)=M:=by simp;omega
  clear hi;go_enter func45,ntmps45;go_wp2_with(fail);go_ret;exact⟨zp HQ.out.symm,gG⟩
 by_cases hj:s.ft.length=2
 case neg=>
  have HQ:=fh (GN hj);have p1:((s.fo.length:Int) != 2)=I:=by simp;omega
  have p2:((s.ft.length:Int) != 2)=M:=by simp;omega
  clear hi hj;go_enter func45,ntmps45;go_wp2_with(fail);go_ret;exact⟨zp HQ.out.symm,gG⟩
 cases he:fP s.ii.length 1 6 with
 | false=>
  have HQ:=fh (GO he);have HE:=fh he;have p1:((s.fo.length:Int) != 2)=I:=by simp;omega
  have p2:((s.ft.length:Int) != 2)=I:=by simp;omega
  clear hi hj he;go_enter func45,ntmps45;go_wp2_with(go_at_call 38;(with_reducible refine(lW _ _ _ _).mono ?_);rw[HE.out];rintro e w1 ⟨rfl,rfl⟩);go_ret;exact⟨zp HQ.out.symm,gG⟩
 | true=>
 obtain⟨ax,am,es⟩:=s;simp only at h0 h1 h2 hi hj he hs |-;have HE:=fh he;have aE:=zu.1 he;obtain⟨i,j,rfl⟩:=Bk hi;obtain⟨a,b,rfl⟩:=Bk hj;have HS:=fh (@GQ i j a b es);rw[he] at HS;clear hi hj he;obtain⟨_,_,aw,aH,aI⟩:=kJ h2;injection aw with e1 e2 e3
 subst e1 e3;clear e2;have a8:mb i+mb j+2+2+es.length<=1099511627776:=by simp[jE,lI] at hs;omega
 have ae:i.Code.size<=1099511627776:=by unfold mb at a8;omega
 have af:j.Code.size<=1099511627776:=by unfold mb at a8;omega
 have ah:i.fm.length<=1099511627776:=by unfold mb at a8;have:=yC s9 i.fm;omega
 have ai:j.fm.length<=1099511627776:=by unfold mb at a8;have:=yC s9 j.fm;omega
 clear a8 hs;simp only[RA,RR] at h0 h1 |-;go_enter func45,ntmps45;go_wp2_with(go_at_call 38;(with_reducible refine(lW _ _ _ _).mono ?_);rw[HE.out];rintro e w1 ⟨rfl,rfl⟩);have a1:fu w (w.alloc (F #[G A0 2 c0,G A1 2 c1,G A2 es.length c2] 28)):=gG;have eb:=Re w (F #[G A0 2 c0,G A1 2 c1,G A2 es.length c2] 28);have k0:=Ty.up _ h0 a1;have k1:=Ty.up _ h1 a1;have k2:=Ty.up _ h2 a1;obtain⟨g0,ap⟩:∃ g0,w.heap.size=g0:=⟨_,rfl⟩
 rw[ap] at eb |-;generalize w.alloc _=Y at a1 eb k0 k1 k2 |-;clear h0 h1 h2 ap;obtain⟨y0,y1,y2,_,yl⟩:=sQ eb;obtain⟨gi,oi,Ai,ci,Aj,cj,rfl,aF,i0,i1,j0,j1,aC,aD,ac,ad⟩:=F9 k0;obtain⟨gb,ob,rfl,b0,b1,⟨ay,az⟩,⟨aA,aB⟩⟩:=Ho k1;have av:=R7 _ _ b0;simp only at av;go_loopw [28] (fun x wr=>((x=J Z 0)∨(x=J Z 1/\jw i=M/\fP a 1 1000000=M)∨(x=J Z 2/\jw i=M/\fP a 1 1000000=M/\jw j=M/\fP b 1 1000000=M))/\Hid (fu Y wr)) (fun x _=>2-(RS x).toNat)
 case atStart=>exact⟨.inl rfl,fh (fu.refl _)⟩
 case round=>
  obtain⟨a5,hG⟩:=hrel;obtain⟨os,d,rfl⟩:=hG.out;clear hG;rcases a5 with rfl | ⟨rfl,a7,a4⟩ | ⟨rfl,a7,a4,ag,a9⟩
  ·have d0:=zd i0 os d
   have d1:=zd i1 os d;have d2:=zd b0 os d;have z0:=zd y0 os d;have z1:=zd y1 os d;obtain⟨ik,hk⟩:∃ ik,jw i=ik:=⟨_,rfl⟩
   cases ik with
   | false=>
    have HK:=fh hk;have HQ:=fh (show zZ ⟨[i,j],[a,b],es⟩=I from by rw[HS.out,hk];simp);clear hk;go_wp2_with(go_at_call 87;(with_reducible refine(zeZ (i:=i) (Ty.up _ ac gG) ae ah).mono ?_);rw[HK.out];rintro e w1 ⟨rfl,a3,d1,rfl⟩);go_ret;exact⟨zp HQ.out.symm,a1.trans gF⟩
   | true=>
    obtain⟨bk,hb⟩:∃ bk,fP a 1 1000000=bk:=⟨_,rfl⟩
    cases bk with
    | false=>
     have HK:=fh hk;have HB:=fh hb;have HQ:=fh (show zZ ⟨[i,j],[a,b],es⟩=I from by rw[HS.out,hb];simp);clear hk hb
     go_wp2_with(first
      | (go_at_call 87;(with_reducible refine(zeZ (i:=i) (Ty.up _ ac gG) ae ah).mono ?_);rw[HK.out];rintro e w1 ⟨rfl,a3,d1,rfl⟩)
      | (go_at_call 38;(with_reducible refine(lW _ _ _ _).mono ?_);rw[HB.out];rintro e w1 ⟨rfl,rfl⟩))
     go_ret;exact⟨zp HQ.out.symm,a1.trans gF⟩
    | true=>
     have HK:=fh hk;have HB:=fh hb;clear hk hb
     go_wp2_with(first
      | (go_at_call 87;(with_reducible refine(zeZ (i:=i) (Ty.up _ ac gG) ae ah).mono ?_);rw[HK.out];rintro e w1 ⟨rfl,a3,d1,rfl⟩)
      | (go_at_call 38;(with_reducible refine(lW _ _ _ _).mono ?_);rw[HB.out];rintro e w1 ⟨rfl,rfl⟩))
     go_roundw;exact⟨.inr (.inl ⟨rfl,HK.out,HB.out⟩),fh gG⟩;exact gM
  ·have d0:=zd j0 os d
   have d1:=zd j1 os d;have d2:=zd b1 os d;have z0:=zd y0 os d;have z1:=zd y1 os d;obtain⟨ik,hk⟩:∃ ik,jw j=ik:=⟨_,rfl⟩
   cases ik with
   | false=>
    have HK:=fh hk;have HQ:=fh (show zZ ⟨[i,j],[a,b],es⟩=I from by rw[HS.out,hk];simp);clear hk;go_wp2_with(go_at_call 87;(with_reducible refine(zeZ (i:=j) (Ty.up _ ad gG) af ai).mono ?_);rw[HK.out];rintro e w1 ⟨rfl,a3,d1,rfl⟩);go_ret;exact⟨zp HQ.out.symm,a1.trans gF⟩
   | true=>
    obtain⟨bk,hb⟩:∃ bk,fP b 1 1000000=bk:=⟨_,rfl⟩
    cases bk with
    | false=>
     have HK:=fh hk;have HB:=fh hb;have HQ:=fh (show zZ ⟨[i,j],[a,b],es⟩=I from by rw[HS.out,hb];simp);clear hk hb
     go_wp2_with(first
      | (go_at_call 87;(with_reducible refine(zeZ (i:=j) (Ty.up _ ad gG) af ai).mono ?_);rw[HK.out];rintro e w1 ⟨rfl,a3,d1,rfl⟩)
      | (go_at_call 38;(with_reducible refine(lW _ _ _ _).mono ?_);rw[HB.out];rintro e w1 ⟨rfl,rfl⟩))
     go_ret;exact⟨zp HQ.out.symm,a1.trans gF⟩
    | true=>
     have HK:=fh hk;have HB:=fh hb;clear hk hb
     go_wp2_with(first
      | (go_at_call 87;(with_reducible refine(zeZ (i:=j) (Ty.up _ ad gG) af ai).mono ?_);rw[HK.out];rintro e w1 ⟨rfl,a3,d1,rfl⟩)
      | (go_at_call 38;(with_reducible refine(lW _ _ _ _).mono ?_);rw[HB.out];rintro e w1 ⟨rfl,rfl⟩))
     go_roundw;exact⟨.inr (.inr ⟨rfl,a7,a4,HK.out,HB.out⟩),fh gG⟩;exact gM
  ·have aj:=zd i0 os d
   have ak:=zd j0 os d;have aa:=zd b0 os d;have ab:=zd b1 os d;have z0:=zd y0 os d;have z1:=zd y1 os d;have z2:=zd y2 os d;have ra:=zu.1 a4;have rb:=zu.1 a9;have al:zZ ⟨[i,j],[a,b],es⟩=(!px i j a b && es.all (kI ⟨[i,j],[a,b],es⟩)):=by rw[HS.out,a7,a4,ag,a9];simp
   have HS3:=fh al;clear al HS;have HI:=fh a7;have HJ:=fh ag;have HA:=fh a4;have HB:=fh a9;clear a7 a4 ag a9;go_wp2_with(fail);go_quiet (fail);have a0:fu Y ((fy Y os d).drewN nq):=gG;generalize (fy Y os d).drewN nq=Q9 at a0 |-;clear aj ak aa ab z0 z1 z2;have aj:=jX a0 i0;have ak:=jX a0 j0;have aa:=jX a0 b0;have ab:=jX a0 b1;have z0:=jX a0 y0;have z1:=jX a0 y1;have z2:=jX a0 y2;have w1:Rg Z (b+(j.Code.size:Int))=b+(j.Code.size:Int):=iw;have w2:Rg Z (a+(i.Code.size:Int))=a+(i.Code.size:Int):=iw;go_upto_region 10 with fail;go_cut [91] from 60 to 91 (fun r wx=>r=H (px i j a b)/\Hid (fu Q9 wx))
   case first=>
    exact WW
   case rest=>
    obtain⟨rfl,an⟩:=hcut;have a2:fu Y wc:=a0.trans an.out;have hGc:fu w wc:=a1.trans a2;clear aj ak aa ab z0 z1 z2 a0 an;obtain⟨vb,hv⟩:∃ vb,px i j a b=vb:=⟨_,rfl⟩
    rw[hv];cases vb with
    | true=>
     exact vN
    | false=>
     have HQ:=fh (show zZ ⟨[i,j],[a,b],es⟩=es.all (kI ⟨[i,j],[a,b],es⟩) from by rw[HS3.out,hv];rfl);have z0:=jX a2 y0;have z1:=jX a2 y1;have z2:=jX a2 y2;have zl:g0<wc.heap.size:=Ri yl a2.size;have m0:=Ty.up _ k0 a2;have m1:=Ty.up _ k1 a2;have m2:=Ty.up _ k2 a2;clear hv HS3 w1 w2;go_wp2_with(fail);go_loopw [95] (fun x wr=>∃ k:Nat,x=J Z k/\k<=es.length/\Hid ((es.drop k).all (kI ⟨[i,j],[a,b],es⟩)=es.all (kI ⟨[i,j],[a,b],es⟩))/\Hid (fu wc wr)) (fun x _=>es.length-(RS x).toNat)
     case atStart=>exact⟨0,rfl,Rl _,fh rfl,fh (fu.refl _)⟩
     case round=>
      obtain⟨k,rfl,hk,hE,hG⟩:=hrel;obtain⟨os,d,rfl⟩:=hG.out;clear hG;by_cases hlt:k<es.length
      ·obtain⟨ge,oe,e,rfl,ao,au,aq,ar⟩:=lJ m2 hlt
       have ha:=yE ao (kI ⟨[i,j],[a,b],es⟩);rw[hE.out] at ha;have hc:=zd au os d;have aJ:=zd z0 os d;have aK:=zd z1 os d;have aL:=zd z2 os d;have aG:(k:Int)<(es.length:Int):=K9;have a6:fE e:=⟨aq,ar⟩
       clear ao hE;obtain⟨vb,hv⟩:∃ vb,kI ⟨[i,j],[a,b],es⟩ e=vb:=⟨_,rfl⟩
       rw[hv] at ha;have HV:=fh hv;clear hv;cases vb with
       | false=>
        have HF:=fh (show zZ ⟨[i,j],[a,b],es⟩=I from by rw[HQ.out,ha];rfl);clear ha;go_wp2_with(go_at_call 88;(with_reducible refine(F0 (i:=i) (j:=j) (a:=a) (b:=b) (es:=es) (e:=e) (Ty.up _ m0 gG) (Ty.up _ m1 gG) HI.out HJ.out HA.out HB.out a6).mono ?_);rw[HV.out];rintro e w1 ⟨rfl,a3,d1,rfl⟩);go_ret;exact⟨zp HF.out.symm,hGc.trans gF⟩
       | true=>
        have HF:=fh (show (es.drop (k+1)).all (kI ⟨[i,j],[a,b],es⟩)=es.all (kI ⟨[i,j],[a,b],es⟩) from by rw[ha];rfl);clear ha;go_wp2_with(go_at_call 88;(with_reducible refine(F0 (i:=i) (j:=j) (a:=a) (b:=b) (es:=es) (e:=e) (Ty.up _ m0 gG) (Ty.up _ m1 gG) HI.out HJ.out HA.out HB.out a6).mono ?_);rw[HV.out];rintro e w1 ⟨rfl,a3,d1,rfl⟩);go_roundw;exact⟨k+1,Ar,K9,HF,fh gG⟩;exact gM
      ·obtain rfl:k=es.length:=K9
       exact vC
theorem Dt {x:gv} (hx:imgs[k]?=D x)(hb:bases[k]?=D b)(e:Int):jF (imgs.drop k) (bases.drop k) e k=if b<=e/\e<b+x.Code.size then ((k:Int),e-b) else jF (imgs.drop (k+1)) (bases.drop (k+1)) e (k+1):=by
 obtain⟨h1,rfl⟩:=Rd.1 hx;obtain⟨h2,rfl⟩:=Rd.1 hb;rw[Rw h1,Rw h2];rfl
theorem E6 (bases:Q Int)(e:Int)(k:Nat):jF [] bases e k=(-1,-1):=by
 cases bases <;> rfl
def Bt (p:Int × Int)(w:U)(r:Ending)(w':U):Prop:=r=.returned (.tuple #[J Z p.1,J Z p.2])/\fu w w'
theorem Ff {p q:Int × Int} (h:p=q){w w':U}(hG:fu w w'):Bt p w (.returned (.tuple #[J Z q.1,J Z q.2])) w':=by
 subst h;exact⟨rfl,hG⟩
theorem vt {g:Prop} (f:g:=by
  have HQ:=fh (show jF imgs bases e 0=(-1,-1) from by rw[<-hE.out,RL];exact E6 _ _ _)
  have z0:=zd y0 os d
  clear hE
  go_wp2_with(fail)
  go_ret2
  exact Ff (q:=(-1,-1)) HQ.out (hG0.trans gF)):g:=f
theorem Xr {g:Prop} (f:g:=by
  clear hz
  go_wp2_with(fail)
  go_quiet (fail)
  go_wp2_with(fail)
  go_roundw
  exact⟨k+1,Ar,K9,HE,fh gG⟩
  exact gM):g:=f
theorem rU {g:Prop} (f:g:=by
  go_wp2_with(fail)
  go_quiet (fail)
  go_wp2_with(fail)
  go_ret2
  exact Ff (q:=((k:Int),e-b)) HQ.out (hG0.trans gF)):g:=f
theorem zlv (h0:(iG.sl 103).R w w.heap.size [G A0 imgs.length c0] imgs)(h1:(zr.sl 3).R w w.heap.size [G A1 bases.length c1] bases)
  (hl:imgs.length=bases.length) (hst:∀ x∈imgs,x.Code.size<=1099511627776) (hbs:∀ b∈bases,fP b 1 1000000=M) (he:fE e) :
  RD prog 82 #[.agg #[G A0 imgs.length c0,G A1 bases.length c1,G A2 es.length c2],J Z e] w (Bt (jF imgs bases e 0) w):=by
 obtain⟨_,_,a1,ao,af⟩:=kJ h0;injection a1 with e1 e2 e3
 subst e1 e3;clear e2;obtain⟨_,_,a1,ap,ag⟩:=kJ h1;injection a1 with e1 e2 e3
 subst e1 e3;clear e2;obtain⟨ah,ai⟩:=he;have al:=Ua hl;clear hl;go_enter func82,ntmps82;go_wp2_with(fail);have hG0:fu w (w.alloc (F #[G A0 imgs.length c0,G A1 bases.length c1,G A2 es.length c2] 28)):=gG;have eb:=Re w (F #[G A0 imgs.length c0,G A1 bases.length c1,G A2 es.length c2] 28);have k0:=Ty.up _ h0 hG0;have k1:=Ty.up _ h1 hG0;obtain⟨g0,a3⟩:∃ g0,w.heap.size=g0:=⟨_,rfl⟩
 rw[a3] at eb |-;generalize w.alloc _=Y at hG0 eb k0 k1 |-;clear h0 h1 a3;obtain⟨y0,y1,_,_,yl⟩:=sQ eb;go_loopw [6] (fun x wr=>∃ k:Nat,x=J Z k/\k<=imgs.length/\Hid (jF (imgs.drop k) (bases.drop k) e k=jF imgs bases e 0)/\Hid (fu Y wr)) (fun x _=>imgs.length-(RS x).toNat)
 case atStart=>exact⟨0,rfl,Rl _,fh rfl,fh (fu.refl _)⟩
 case round=>
  obtain⟨k,rfl,hk,hE,hG⟩:=hrel;obtain⟨os,d,rfl⟩:=hG.out;clear hG;by_cases hlt:k<imgs.length
  ·obtain⟨g,aq,x,A,c,rfl,aj,a2,a7,an,ab,ac⟩:=qI k0 hlt
   obtain⟨gb,a8,b,rfl,a0,a4,a9,aa⟩:=lJ k1 (k:=k) K9;have ad:=zu.1 (hbs b (Rt a0));have am:=hst x (Rt a2);have hz:=Dt a2 a0 e;rw[hE.out] at hz;have ae:=zd a7 os d;have a5:=zd a4 os d;have z0:=zd y0 os d;have z1:=zd y1 os d;have ak:(k:Int)<(imgs.length:Int):=K9;have a6:(k:Int)<(bases.length:Int):=K9;have w1:Rg Z (b+(x.Code.size:Int))=b+(x.Code.size:Int):=SG _ K9;clear a2 a0 hE;by_cases q0:b<=e
   ·have r0:decide (b<=e)=M:=Rp q0
    by_cases q1:e<b+(x.Code.size:Int)
    ·have r1:decide (e<b+(x.Code.size:Int))=M:=Rp q1
     have w2:Rg Z (e-b)=e-b:=SG _ K9;have HQ:=fh (show jF imgs bases e 0=((k:Int),e-b) from by rw[hz,Rs ⟨q0,q1⟩]);clear hz;go_wp2_with(fail);go_quiet (fail);exact rU
    ·have r1:decide (e<b+(x.Code.size:Int))=I:=Rk q1
     have HE:=fh (show jF (imgs.drop (k+1)) (bases.drop (k+1)) e (k+1)=jF imgs bases e 0 from by rw[hz,Ro (fun h=>q1 h.2)]);exact Xr
   ·have r0:decide (b<=e)=I:=Rk q0
    have HE:=fh (show jF (imgs.drop (k+1)) (bases.drop (k+1)) e (k+1)=jF imgs bases e 0 from by rw[hz,Ro (fun h=>q0 h.1)]);exact Xr
  ·obtain rfl:k=imgs.length:=K9
   exact vt
theorem zlu (h0:(iG.sl 103).R w w.heap.size [G A0 imgs.length c0] imgs)(h1:(zr.sl 3).R w w.heap.size [G A1 bases.length c1] bases)
  (hl:imgs.length=bases.length) (hst:∀ x∈imgs,x.Code.size<=1099511627776) (hbs:∀ b∈bases,fP b 1 1000000=M) (he:fE e) :
  RD prog 129 #[.agg #[G A0 imgs.length c0,G A1 bases.length c1,G A2 es.length c2],J Z e] w (Bt (jF imgs bases e 0) w):=by
 obtain⟨_,_,a1,aq,ai⟩:=kJ h0;injection a1 with e1 e2 e3
 subst e1 e3;clear e2;obtain⟨_,_,a1,ar,aj⟩:=kJ h1;injection a1 with e1 e2 e3
 subst e1 e3;clear e2;obtain⟨ak,al⟩:=he;have ao:=Ua hl;clear hl;go_enter func129,ntmps129;go_wp2_with(fail);have hG0:fu w (w.alloc (F #[G A0 imgs.length c0,G A1 bases.length c1,G A2 es.length c2] 28)):=gG;have eb:=Re w (F #[G A0 imgs.length c0,G A1 bases.length c1,G A2 es.length c2] 28);have k0:=Ty.up _ h0 hG0;have k1:=Ty.up _ h1 hG0;obtain⟨g0,a4⟩:∃ g0,w.heap.size=g0:=⟨_,rfl⟩
 rw[a4] at eb |-;generalize w.alloc _=Y at hG0 eb k0 k1 |-;clear h0 h1 a4;obtain⟨y0,y1,_,_,yl⟩:=sQ eb;go_loopw [11] (fun x wr=>∃ k:Nat,x=J Z k/\k<=imgs.length/\Hid (jF (imgs.drop k) (bases.drop k) e k=jF imgs bases e 0)/\Hid (fu Y wr)) (fun x _=>imgs.length-(RS x).toNat)
 case atStart=>exact⟨0,rfl,Rl _,fh rfl,fh (fu.refl _)⟩
 case round=>
  obtain⟨k,rfl,hk,hE,hG⟩:=hrel;obtain⟨os,d,rfl⟩:=hG.out;clear hG;by_cases hlt:k<imgs.length
  ·obtain⟨g,au,x,A,c,rfl,am,a2,a8,a9,ad,ae⟩:=qI k0 hlt
   obtain⟨gb,aa,b,rfl,a0,a3,ab,ac⟩:=lJ k1 (k:=k) K9;have a5:=R7 _ _ a3;simp only at a5;have af:=zu.1 (hbs b (Rt a0));have ap:=hst x (Rt a2);have hz:=Dt a2 a0 e;rw[hE.out] at hz;have ag:=zd a8 os d;have ah:=zd a9 os d;have a6:=zd a3 os d;have z0:=zd y0 os d;have z1:=zd y1 os d;have an:(k:Int)<(imgs.length:Int):=K9;have a7:(k:Int)<(bases.length:Int):=K9;have w1:Rg Z (b+(x.Code.size:Int))=b+(x.Code.size:Int):=SG _ K9;have w3:Rg Z (b+(x.Code.size:Int)-1)=b+(x.Code.size:Int)-1:=SG _ K9;clear a2 a0 hE;by_cases q:b<=e/\e<b+(x.Code.size:Int)
   ·have hv:fP e b (b+(x.Code.size:Int)-1)=M:=oz q.1 K9
    have HQ:=fh (show jF imgs bases e 0=((k:Int),e-b) from by rw[hz,Rs q]);have w2:Rg Z (e-b)=e-b:=SG _ K9;clear hz q;go_wp2_with(fail);go_quiet ((first | (go_at_call 38;with_reducible exact Jn hv _ _)));exact rU
   ·have hv:fP e b (b+(x.Code.size:Int)-1)=I:=by
     cases h:fP e b (b+(x.Code.size:Int)-1)
     ·rfl
     ·exact absurd ⟨(zu.1 h).1,by have:=(zu.1 h).2;omega⟩ q
    have HE:=fh (show jF (imgs.drop (k+1)) (bases.drop (k+1)) e (k+1)=jF imgs bases e 0 from by rw[hz,Ro q]);clear hz q;go_wp2_with(fail);go_quiet ((first | (go_at_call 38;with_reducible exact Jn hv _ _)));go_wp2_with(fail);go_roundw;exact⟨k+1,Ar,K9,HE,fh gG⟩;exact gM
  ·obtain rfl:k=imgs.length:=K9
   exact vt
theorem Py {WB:Q fC} {x:fC} (hx:WB[k]?=D x)(off:Int):mR (WB.drop k) off k=if qt x off=M then (k:Int) else mR (WB.drop (k+1)) off (k+1):=by
 obtain⟨h1,rfl⟩:=Rd.1 hx;rw[Rw h1];rfl
theorem WM {g:Prop} (f:g:=by
  clear hno hyes hb0 hb1
  go_wp2_with(go_at_call 43;(with_reducible refine(gW _ _ _ _).mono ?_);first | (rw[HB0.out];rintro e w1 ⟨rfl,rfl⟩) | (rw[HB1.out];rintro e w1 ⟨rfl,rfl⟩))
  go_roundw
  exact⟨j+1,Ar,K9,HE,fh gG⟩
  exact gM):g:=f
theorem zhC {off:Int} (h1:(jm.sl 137).R w w.heap.size [G A i.fm.length c] i.fm)(ho:fE off) :
  RD prog 83 #[.agg #[V i.Code,G A i.fm.length c],J Z off] w fun r w'=>r=.returned (J Z (mR i.fm off 0))/\fu w w':=by
 obtain⟨_,_,a8,ac,a7⟩:=kJ h1;injection a8 with e1 e2 e3
 subst e1 e3;clear e2;obtain⟨code,a0⟩:=i;simp only at h1 ac a7 |-;obtain⟨aj,ak⟩:=ho;go_enter func83,ntmps83;go_wp2_with(fail);have a1:fu w (w.alloc (F #[V code,G A a0.length c] 103)):=gG;have eb:=Re w (F #[V code,G A a0.length c] 103);have h2:=Ty.up _ h1 a1;obtain⟨g0,a2⟩:∃ g0,w.heap.size=g0:=⟨_,rfl⟩
 rw[a2] at eb |-;generalize w.alloc _=Y at a1 eb h2 |-;clear h1 a2;obtain⟨y0,y1,_,_,yl⟩:=jT eb;go_loopw [5] (fun x wr=>∃(j:Nat),x=J Z j/\j<=a0.length/\Hid (mR (a0.drop j) off j=mR a0 off 0)/\Hid (fu Y wr)) (fun y _=>a0.length-(RS y).toNat)
 case atStart=>exact⟨0,rfl,Rl _,fh rfl,fh (fu.refl _)⟩
 case round=>
  obtain⟨j,rfl,hj,hE,hG⟩:=hrel;obtain⟨os,d,rfl⟩:=hG.out;clear hG;by_cases hlt:j<a0.length
  ·obtain⟨g,ad,x,rfl,ah,a3,a9,aa,ab,ae,af,ag⟩:=qD h2 hlt
   have hF:=Py a3 off;rw[hE.out] at hF;have a4:=zd a9 os d;have a5:=zd aa os d;have a6:=zd ab os d;have z0:=zd y0 os d;have z1:=zd y1 os d;have ai:(j:Int)<(a0.length:Int):=K9;clear hE a3;obtain⟨nm,st,sz⟩:=x;simp only at hF a4 a5 a6;have hno:qt ⟨nm,st,sz⟩ off=I->mR (a0.drop (j+1)) off (j+1)=mR a0 off 0:=fun h=>by rw[hF,h];rfl
   have hyes:qt ⟨nm,st,sz⟩ off=M->mR a0 off 0=(j:Int):=fun h=>by rw[hF,h];rfl
   clear hF;obtain⟨b0,hb0⟩:∃ b,fP st 0 1000000=b:=⟨_,rfl⟩
   obtain⟨b1,hb1⟩:∃ b,fP sz 0 1000000=b:=⟨_,rfl⟩
   have HB0:=fh hb0;have HB1:=fh hb1;cases b0 with
   | false=>
    have HE:=fh (hno (by simp[qt,hb0]));clear hno hyes hb0 hb1;go_wp2_with(go_at_call 43;(with_reducible refine(gW _ _ _ _).mono ?_);rw[HB0.out];rintro e w1 ⟨rfl,rfl⟩);go_roundw;exact⟨j+1,Ar,K9,HE,fh gG⟩;exact gM
   | true=>
    cases b1 with
    | false=>
     have HE:=fh (hno (by simp[qt,hb1]));exact WM
    | true=>
     have r0:=zu.1 hb0;have r1:=zu.1 hb1;have w1:Rg Z (st+sz)=st+sz:=iw;by_cases q2:st<=off
     case neg=>
      have s2:decide (st<=off)=I:=Rk q2;have HE:=fh (hno (by simp[qt,q2]));exact WM
     have s2:decide (st<=off)=M:=Rp q2;by_cases q3:off<st+sz
     case neg=>
      have s3:decide (off<st+sz)=I:=Rk q3;have HE:=fh (hno (by simp[qt,q3]));exact WM
     have s3:decide (off<st+sz)=M:=Rp q3;have HE:=fh (hyes (by simp[qt,q2,q3,hb0,hb1]));clear hno hyes hb0 hb1;go_wp2_with(go_at_call 43;(with_reducible refine(gW _ _ _ _).mono ?_);first | (rw[HB0.out];rintro e w1 ⟨rfl,rfl⟩) | (rw[HB1.out];rintro e w1 ⟨rfl,rfl⟩));go_ret;exact⟨nV HE.out.symm,a1.trans gF⟩
  ·obtain rfl:j=a0.length:=K9
   have HQ:=fh (show mR a0 off 0 = -1 from by rw[<-hE.out,RL];rfl);have z0:=zd y0 os d;have z1:=zd y1 os d;clear hE;go_wp2_with(fail);go_ret;exact⟨nV HQ.out.symm,a1.trans gF⟩
theorem ya (h0:(iG.sl 103).R w w.heap.size [G A0 2 c0] [i,j])(h1:(zr.sl 3).R w w.heap.size [G A1 2 c1] [a,b])
  (hi:i.Code.size<=1099511627776) (hj:j.Code.size<=1099511627776) (ha:fP a 1 1000000=M) (hb:fP b 1 1000000=M) (he:fE e) :
  RD prog 82 #[.agg #[G A0 2 c0,G A1 2 c1,G A2 es.length c2],J Z e] w (Bt (jF [i,j] [a,b] e 0) w):=
 zlv (imgs:=[i,j]) (bases:=[a,b]) h0 h1 rfl (fun x hx=>by
  simp only[RO,Sq,Tm] at hx;rcases hx with rfl | rfl
  ·exact hi
  ·exact hj) (fun x hx=>by
  simp only[RO,Sq,Tm] at hx;rcases hx with rfl | rfl
  ·exact ha
  ·exact hb) he
theorem uw {g:Prop} (f:g:=by
  go_wp2_with(fail)
  go_region_held3 (fun w'=>Rb w' ⟨g0,0,C⟩=D (G (D ⟨gi,oi,C⟩) 2 c0)/\Rb w' ⟨g0,1,C⟩=D (G (D ⟨gb,ob,C⟩) 2 c1)/\Rb w' ⟨g0,2,C⟩=D (G (D ⟨ge,oe,C⟩) es.length c2)/\Rb w' ⟨ge,oe+k,C⟩=D (J Z e)) ((repeat' apply Rf) <;> (first | ((repeat (first | assumption | with_reducible refine zd ?_ _ _ | with_reducible refine zo ?_ _ | with_reducible refine zc ?_));done) | (simp[go_sem];done))) (first
   | (go_at_call 82;(with_reducible refine(ya (i:=i) (j:=j) (a:=a) (b:=b) (es:=es) (e:=e) (Ty.up _ m0 gG) (Ty.up _ m1 gG) hci hcj HA.out HB.out he64).mono ?_);rw[HL.out];rintro e w1 ⟨rfl,os1,d1,rfl⟩))
  go_wp2_with(go_at_call 83;(with_reducible refine(zhC (i:=j) (Ty.up _ bj1 gG) ho64).mono ?_);rw[HN.out];rintro e w2 ⟨rfl,os2,d2,rfl⟩)
  go_ret
  exact⟨zp HF.out.symm,hGc.trans gF⟩):g:=f
theorem uy {g:Prop} (f:g:=by
  go_wp2_with(fail)
  go_region_held3 (fun w'=>Rb w' ⟨g0,0,C⟩=D (G (D ⟨gi,oi,C⟩) 2 c0)/\Rb w' ⟨g0,1,C⟩=D (G (D ⟨gb,ob,C⟩) 2 c1)/\Rb w' ⟨g0,2,C⟩=D (G (D ⟨ge,oe,C⟩) es.length c2)/\Rb w' ⟨ge,oe+k,C⟩=D (J Z e)) ((repeat' apply Rf) <;> (first | ((repeat (first | assumption | with_reducible refine zd ?_ _ _ | with_reducible refine zo ?_ _ | with_reducible refine zc ?_));done) | (simp[go_sem];done))) (first
   | (go_at_call 82;(with_reducible refine(ya (i:=i) (j:=j) (a:=a) (b:=b) (es:=es) (e:=e) (Ty.up _ m0 gG) (Ty.up _ m1 gG) hci hcj HA.out HB.out he64).mono ?_);rw[HL.out];rintro e w1 ⟨rfl,os1,d1,rfl⟩))
  go_wp2_with(go_at_call 83;(with_reducible refine(zhC (i:=i) (Ty.up _ bi1 gG) ho64).mono ?_);rw[HN.out];rintro e w2 ⟨rfl,os2,d2,rfl⟩)
  go_ret
  exact⟨zp HF.out.symm,hGc.trans gF⟩):g:=f
theorem zbG (h0:(iG.sl 103).R w w.heap.size [G A0 s.fo.length c0] s.fo)(h1:(zr.sl 3).R w w.heap.size [G A1 s.ft.length c1] s.ft)
  (h2:(zr.sl 3).R w w.heap.size [G A2 s.ii.length c2] s.ii) (hs:jE s<=1099511627776) :
  RD prog 41 #[.agg #[G A0 s.fo.length c0,G A1 s.ft.length c1,G A2 s.ii.length c2]] w fun r w'=>r=.returned (H (zZ s))/\fu w w':=by
 by_cases hi:s.fo.length=2
 case neg=>
  have HQ:=fh (GP hi);have p1:((s.fo.length:Int) != 2)=M:=by simp;omega
  clear hi;go_enter func41,ntmps41;go_wp2_with(fail);go_ret;exact⟨zp HQ.out.symm,gG⟩
 by_cases hj:s.ft.length=2
 case neg=>
  have HQ:=fh (GN hj);have p1:((s.fo.length:Int) != 2)=I:=by simp;omega
  have p2:((s.ft.length:Int) != 2)=M:=by simp;omega
  clear hi hj;go_enter func41,ntmps41;go_wp2_with(fail);go_ret;exact⟨zp HQ.out.symm,gG⟩
 cases he:fP s.ii.length 1 6 with
 | false=>
  have HQ:=fh (GO he);have HE:=fh he;have p1:((s.fo.length:Int) != 2)=I:=by simp;omega
  have p2:((s.ft.length:Int) != 2)=I:=by simp;omega
  clear hi hj he;go_enter func41,ntmps41;go_wp2_with(go_at_call 43;(with_reducible refine(gW _ _ _ _).mono ?_);rw[HE.out];rintro e w1 ⟨rfl,rfl⟩);go_ret;exact⟨zp HQ.out.symm,gG⟩
 | true=>
 obtain⟨aR,az,es⟩:=s;simp only at h0 h1 h2 hi hj he hs |-;have HE:=fh he;have b2:=zu.1 he;obtain⟨i,j,rfl⟩:=Bk hi;obtain⟨a,b,rfl⟩:=Bk hj;have HS:=fh (@GQ i j a b es);rw[he] at HS;clear hi hj he;obtain⟨_,_,aO,b4,b5⟩:=kJ h2;injection aO with e1 e2 e3
 subst e1 e3;clear e2;have ag:mb i+mb j+2+2+es.length<=1099511627776:=by simp[jE,lI] at hs;omega
 have hci:i.Code.size<=1099511627776:=by unfold mb at ag;omega
 have hcj:j.Code.size<=1099511627776:=by unfold mb at ag;omega
 have ar:i.fm.length<=1099511627776:=by unfold mb at ag;have:=yC s9 i.fm;omega
 have au:j.fm.length<=1099511627776:=by unfold mb at ag;have:=yC s9 j.fm;omega
 clear ag hs;simp only[RA,RR] at h0 h1 |-;go_enter func41,ntmps41;go_wp2_with(go_at_call 43;(with_reducible refine(gW _ _ _ _).mono ?_);rw[HE.out];rintro e w1 ⟨rfl,rfl⟩);have a9:fu w (w.alloc (F #[G A0 2 c0,G A1 2 c1,G A2 es.length c2] 28)):=gG;have eb:=Re w (F #[G A0 2 c0,G A1 2 c1,G A2 es.length c2] 28);have k0:=Ty.up _ h0 a9;have k1:=Ty.up _ h1 a9;have k2:=Ty.up _ h2 a9;obtain⟨g0,aD⟩:∃ g0,w.heap.size=g0:=⟨_,rfl⟩
 rw[aD] at eb |-;generalize w.alloc _=Y at a9 eb k0 k1 k2 |-;clear h0 h1 h2 aD;obtain⟨y0,y1,y2,_,yl⟩:=sQ eb;obtain⟨gi,oi,Ai,ci,Aj,cj,rfl,aL,i0,i1,j0,j1,aY,aZ,bi1,bj1⟩:=F9 k0;obtain⟨gb,ob,rfl,b0,b1,⟨aU,aV⟩,⟨aW,aX⟩⟩:=Ho k1;have aK:=R7 _ _ b0;simp only at aK;go_loopw [3] (fun x wr=>((x=J Z 0)∨(x=J Z 1/\jw i=M/\fP a 1 1000000=M)∨(x=J Z 2/\jw i=M/\fP a 1 1000000=M/\jw j=M/\fP b 1 1000000=M))/\Hid (fu Y wr)) (fun x _=>2-(RS x).toNat)
 case atStart=>exact⟨.inl rfl,fh (fu.refl _)⟩
 case round=>
  obtain⟨ad,hG⟩:=hrel;obtain⟨os,d,rfl⟩:=hG.out;clear hG;rcases ad with rfl | ⟨rfl,af,ac⟩ | ⟨rfl,af,ac,aq,ah⟩
  ·have d0:=zd i0 os d
   have d1:=zd i1 os d;have d2:=zd b0 os d;have z0:=zd y0 os d;have z1:=zd y1 os d;obtain⟨ik,hk⟩:∃ ik,jw i=ik:=⟨_,rfl⟩
   cases ik with
   | false=>
    have HK:=fh hk;have HQ:=fh (show zZ ⟨[i,j],[a,b],es⟩=I from by rw[HS.out,hk];simp);clear hk;go_wp2_with(go_at_call 81;(with_reducible refine(ze0 (i:=i) (Ty.up _ bi1 gG) hci ar).mono ?_);rw[HK.out];rintro e w1 ⟨rfl,os1,d1,rfl⟩);go_ret;exact⟨zp HQ.out.symm,a9.trans gF⟩
   | true=>
    obtain⟨bk,hb⟩:∃ bk,fP a 1 1000000=bk:=⟨_,rfl⟩
    cases bk with
    | false=>
     have HK:=fh hk;have HB:=fh hb;have HQ:=fh (show zZ ⟨[i,j],[a,b],es⟩=I from by rw[HS.out,hb];simp);clear hk hb
     go_wp2_with(first
      | (go_at_call 81;(with_reducible refine(ze0 (i:=i) (Ty.up _ bi1 gG) hci ar).mono ?_);rw[HK.out];rintro e w1 ⟨rfl,os1,d1,rfl⟩)
      | (go_at_call 43;(with_reducible refine(gW _ _ _ _).mono ?_);rw[HB.out];rintro e w1 ⟨rfl,rfl⟩))
     go_ret;exact⟨zp HQ.out.symm,a9.trans gF⟩
    | true=>
     have HK:=fh hk;have HB:=fh hb;clear hk hb
     go_wp2_with(first
      | (go_at_call 81;(with_reducible refine(ze0 (i:=i) (Ty.up _ bi1 gG) hci ar).mono ?_);rw[HK.out];rintro e w1 ⟨rfl,os1,d1,rfl⟩)
      | (go_at_call 43;(with_reducible refine(gW _ _ _ _).mono ?_);rw[HB.out];rintro e w1 ⟨rfl,rfl⟩))
     go_roundw;exact⟨.inr (.inl ⟨rfl,HK.out,HB.out⟩),fh gG⟩;exact gM
  ·have d0:=zd j0 os d
   have d1:=zd j1 os d;have d2:=zd b1 os d;have z0:=zd y0 os d;have z1:=zd y1 os d;obtain⟨ik,hk⟩:∃ ik,jw j=ik:=⟨_,rfl⟩
   cases ik with
   | false=>
    have HK:=fh hk;have HQ:=fh (show zZ ⟨[i,j],[a,b],es⟩=I from by rw[HS.out,hk];simp);clear hk;go_wp2_with(go_at_call 81;(with_reducible refine(ze0 (i:=j) (Ty.up _ bj1 gG) hcj au).mono ?_);rw[HK.out];rintro e w1 ⟨rfl,os1,d1,rfl⟩);go_ret;exact⟨zp HQ.out.symm,a9.trans gF⟩
   | true=>
    obtain⟨bk,hb⟩:∃ bk,fP b 1 1000000=bk:=⟨_,rfl⟩
    cases bk with
    | false=>
     have HK:=fh hk;have HB:=fh hb;have HQ:=fh (show zZ ⟨[i,j],[a,b],es⟩=I from by rw[HS.out,hb];simp);clear hk hb
     go_wp2_with(first
      | (go_at_call 81;(with_reducible refine(ze0 (i:=j) (Ty.up _ bj1 gG) hcj au).mono ?_);rw[HK.out];rintro e w1 ⟨rfl,os1,d1,rfl⟩)
      | (go_at_call 43;(with_reducible refine(gW _ _ _ _).mono ?_);rw[HB.out];rintro e w1 ⟨rfl,rfl⟩))
     go_ret;exact⟨zp HQ.out.symm,a9.trans gF⟩
    | true=>
     have HK:=fh hk;have HB:=fh hb;clear hk hb
     go_wp2_with(first
      | (go_at_call 81;(with_reducible refine(ze0 (i:=j) (Ty.up _ bj1 gG) hcj au).mono ?_);rw[HK.out];rintro e w1 ⟨rfl,os1,d1,rfl⟩)
      | (go_at_call 43;(with_reducible refine(gW _ _ _ _).mono ?_);rw[HB.out];rintro e w1 ⟨rfl,rfl⟩))
     go_roundw;exact⟨.inr (.inr ⟨rfl,af,ac,HK.out,HB.out⟩),fh gG⟩;exact gM
  ·have aw:=zd i0 os d
   have ax:=zd j0 os d;have aj:=zd b0 os d;have ak:=zd b1 os d;have z0:=zd y0 os d;have z1:=zd y1 os d;have z2:=zd y2 os d;have ra:=zu.1 ac;have rb:=zu.1 ah;have ay:zZ ⟨[i,j],[a,b],es⟩=(!px i j a b && es.all (kI ⟨[i,j],[a,b],es⟩)):=by rw[HS.out,af,ac,aq,ah];simp
   have HS3:=fh ay;clear ay HS;have HI:=fh af;have HJ:=fh aq;have HA:=fh ac;have HB:=fh ah;clear af ac aq ah;have a8:fu Y (fy Y os d):=gG;generalize fy Y os d=Q9 at a8 |-;clear aw ax aj ak z0 z1 z2;have aw:=jX a8 i0;have ax:=jX a8 j0;have aj:=jX a8 b0;have ak:=jX a8 b1;have z0:=jX a8 y0;have z1:=jX a8 y1;have z2:=jX a8 y2;have w1:Rg Z (b+(j.Code.size:Int))=b+(j.Code.size:Int):=iw;have w2:Rg Z (a+(i.Code.size:Int))=a+(i.Code.size:Int):=iw;go_upto_region 10 with fail;go_cut [90] from 59 to 90 (fun r wx=>r=H (px i j a b)/\Hid (fu Q9 wx))
   case first=>
    exact WW
   case rest=>
    obtain⟨rfl,aA⟩:=hcut;have a4:fu Y wc:=a8.trans aA.out;have hGc:fu w wc:=a9.trans a4;clear aw ax aj ak z0 z1 z2 a8 aA;obtain⟨vb,hv⟩:∃ vb,px i j a b=vb:=⟨_,rfl⟩
    rw[hv];cases vb with
    | true=>
     exact vN
    | false=>
     have HQ:=fh (show zZ ⟨[i,j],[a,b],es⟩=es.all (kI ⟨[i,j],[a,b],es⟩) from by rw[HS3.out,hv];rfl);have z0:=jX a4 y0;have z1:=jX a4 y1;have z2:=jX a4 y2;have zl:g0<wc.heap.size:=Ri yl a4.size;have m0:=Ty.up _ k0 a4;have m1:=Ty.up _ k1 a4;have m2:=Ty.up _ k2 a4
     have aE:=fh (show ¬ (0<i.Code.size/\0<j.Code.size/\a<b+j.Code.size/\b<a+i.Code.size) from fun h=>by
      unfold px at hv;rw[Rp h.1,Rp h.2.1,Rp h.2.2.1,Rp h.2.2.2] at hv
      cases hv)
     clear hv HS3 w1 w2;go_wp2_with(fail);have ai:=fh (fun e=>Qu (es:=es) HI.out HJ.out (zu.1 HA.out).1 (zu.1 HB.out).1 (show ¬ (0<i.Code.size/\0<j.Code.size/\a<b+j.Code.size/\b<a+i.Code.size) from aE.out) e);have b6:=jX a4 i0;have b7:=jX a4 i1;have b8:=jX a4 j0;have b9:=jX a4 j1;have aM:gi<wc.heap.size:=Ri aL a4.size;go_loopw [6] (fun x wr=>∃ k:Nat,x=J Z k/\k<=es.length/\Hid ((es.drop k).all (kI ⟨[i,j],[a,b],es⟩)=es.all (kI ⟨[i,j],[a,b],es⟩))/\Hid (fu wc wr)) (fun x _=>es.length-(RS x).toNat)
     case atStart=>exact⟨0,rfl,Rl _,fh rfl,fh (fu.refl _)⟩
     case round=>
      obtain⟨k,rfl,hk,hE,hG⟩:=hrel;obtain⟨os,d,rfl⟩:=hG.out;clear hG;by_cases hlt:k<es.length
      ·obtain⟨ge,oe,e,rfl,aC,aB,aF,aG⟩:=lJ m2 hlt
       have ha:=yE aC (kI ⟨[i,j],[a,b],es⟩);rw[hE.out] at ha;have hc:=zd aB os d;have am:=R7 _ _ aB;simp only at am;have ba:=zd z0 os d;have bb:=zd z1 os d;have aT:=zd z2 os d;have b3:(k:Int)<(es.length:Int):=K9;have he64:fE e:=⟨aF,aG⟩
       clear aC hE;have a6:kI ⟨[i,j],[a,b],es⟩ e=I->zZ ⟨[i,j],[a,b],es⟩=I:=fun h=>by rw[HQ.out,ha,h];rfl
       have a2:kI ⟨[i,j],[a,b],es⟩ e=M->(es.drop (k+1)).all (kI ⟨[i,j],[a,b],es⟩)=es.all (kI ⟨[i,j],[a,b],es⟩):=fun h=>by rw[ha,h];rfl
       rw[<-ai.out e] at a6 a2;clear ha
       have a0:(jF [i,j] [a,b] e 0=(0,e-a)/\a<=e/\e<a+i.Code.size)∨(jF [i,j] [a,b] e 0=(1,e-b)/\b<=e/\e<b+j.Code.size)∨jF [i,j] [a,b] e 0=(-1,-1):=by
        simp only[jF];split
        ·rename_i h;exact .inl ⟨rfl,h.1,h.2⟩
        ·split
         ·rename_i h;exact .inr (.inl ⟨rfl,h.1,h.2⟩)
         ·exact .inr (.inr rfl)
       rcases a0 with⟨a0,q1,q2⟩ | ⟨a0,q1,q2⟩ | a0
       ·have HL:=fh a0
        obtain⟨a5,a1⟩:∃ a5,e-a=a5:=⟨_,rfl⟩
        have ho64:fE a5:=⟨K9,K9⟩
        have a3:=FF i.fm a5 0;rcases a3 with a3 | ⟨m,y,a3,aa,_⟩
        ·have HF:=fh (a6 (by simp[qz,loc,a0,a1,a3];split <;> rfl))
         have HN:=fh a3;rw[a1] at HL;clear a6 a2 a0 a3 a1;exact uy
        ·rw[RF] at a3
         have ap:m<i.fm.length:=(Rd.1 aa).1;obtain⟨gs,aS,y',al,ae,ab,aP,av,aQ,aH,aI,aJ⟩:=qD bi1 ap;subst al;obtain rfl:y'=y:=by rw[ab] at aa;exact Option.some.inj aa
         have a7:qz ⟨[i,j],[a,b],es⟩ e=decide (y'.kw=a5):=by simp[qz,loc,a0,a1,a3,ab]
         rw[a7] at a6 a2;have HN:=fh a3;rw[a1] at HL;have aN:(m:Int)<(i.fm.length:Int):=K9;have v1:=jX a4 av;have ao:gs<wc.heap.size:=Ri ae a4.size;have an:=ae;clear a0 a3 a1 ab aa a7;by_cases q3:y'.kw=a5
         ·have HF:=fh (a2 (Rp q3))
          have p3:(y'.kw != a5)=I:=by simp[q3]
          have p4:decide ((m:Int)<0)=I:=Rk K9;clear a6 a2 q3;go_wp2_with(fail)
          go_region_held3 (fun w'=>Rb w' ⟨g0,0,C⟩=D (G (D ⟨gi,oi,C⟩) 2 c0)/\Rb w' ⟨g0,1,C⟩=D (G (D ⟨gb,ob,C⟩) 2 c1)/\Rb w' ⟨g0,2,C⟩=D (G (D ⟨ge,oe,C⟩) es.length c2)/\Rb w' ⟨ge,oe+k,C⟩=D (J Z e)) ((repeat' apply Rf) <;> (first | ((repeat (first | assumption | with_reducible refine zd ?_ _ _ | with_reducible refine zo ?_ _ | with_reducible refine zc ?_));done) | (simp[go_sem];done))) (first
           | (go_at_call 82;(with_reducible refine(ya (i:=i) (j:=j) (a:=a) (b:=b) (es:=es) (e:=e) (Ty.up _ m0 gG) (Ty.up _ m1 gG) hci hcj HA.out HB.out he64).mono ?_);rw[HL.out];rintro e w1 ⟨rfl,os1,d1,rfl⟩))
          go_wp2_with(go_at_call 83;(with_reducible refine(zhC (i:=i) (Ty.up _ bi1 gG) ho64).mono ?_);rw[HN.out];rintro e w2 ⟨rfl,os2,d2,rfl⟩);go_roundw;exact⟨k+1,Ar,K9,HF,fh gG⟩;exact gM
         ·have HF:=fh (a6 (Rk q3))
          have p3:(y'.kw != a5)=M:=by simp[q3]
          have p4:decide ((m:Int)<0)=I:=Rk K9;clear a6 a2 q3;exact uy
       ·have HL:=fh a0
        obtain⟨a5,a1⟩:∃ a5,e-b=a5:=⟨_,rfl⟩
        have ho64:fE a5:=⟨K9,K9⟩
        have a3:=FF j.fm a5 0;rcases a3 with a3 | ⟨m,y,a3,aa,_⟩
        ·have HF:=fh (a6 (by simp[qz,loc,a0,a1,a3];split <;> rfl))
         have HN:=fh a3;rw[a1] at HL;clear a6 a2 a0 a3 a1;exact uw
        ·rw[RF] at a3
         have ap:m<j.fm.length:=(Rd.1 aa).1;obtain⟨gs,aS,y',al,ae,ab,aP,av,aQ,aH,aI,aJ⟩:=qD bj1 ap;subst al;obtain rfl:y'=y:=by rw[ab] at aa;exact Option.some.inj aa
         have a7:qz ⟨[i,j],[a,b],es⟩ e=decide (y'.kw=a5):=by simp[qz,loc,a0,a1,a3,ab]
         rw[a7] at a6 a2;have HN:=fh a3;rw[a1] at HL;have aN:(m:Int)<(j.fm.length:Int):=K9;have v1:=jX a4 av;have ao:gs<wc.heap.size:=Ri ae a4.size;have an:=ae;clear a0 a3 a1 ab aa a7;by_cases q3:y'.kw=a5
         ·have HF:=fh (a2 (Rp q3))
          have p3:(y'.kw != a5)=I:=by simp[q3]
          have p4:decide ((m:Int)<0)=I:=Rk K9;clear a6 a2 q3;go_wp2_with(fail)
          go_region_held3 (fun w'=>Rb w' ⟨g0,0,C⟩=D (G (D ⟨gi,oi,C⟩) 2 c0)/\Rb w' ⟨g0,1,C⟩=D (G (D ⟨gb,ob,C⟩) 2 c1)/\Rb w' ⟨g0,2,C⟩=D (G (D ⟨ge,oe,C⟩) es.length c2)/\Rb w' ⟨ge,oe+k,C⟩=D (J Z e)) ((repeat' apply Rf) <;> (first | ((repeat (first | assumption | with_reducible refine zd ?_ _ _ | with_reducible refine zo ?_ _ | with_reducible refine zc ?_));done) | (simp[go_sem];done))) (first
           | (go_at_call 82;(with_reducible refine(ya (i:=i) (j:=j) (a:=a) (b:=b) (es:=es) (e:=e) (Ty.up _ m0 gG) (Ty.up _ m1 gG) hci hcj HA.out HB.out he64).mono ?_);rw[HL.out];rintro e w1 ⟨rfl,os1,d1,rfl⟩))
          go_wp2_with(go_at_call 83;(with_reducible refine(zhC (i:=j) (Ty.up _ bj1 gG) ho64).mono ?_);rw[HN.out];rintro e w2 ⟨rfl,os2,d2,rfl⟩);go_roundw;exact⟨k+1,Ar,K9,HF,fh gG⟩;exact gM
         ·have HF:=fh (a6 (Rk q3))
          have p3:(y'.kw != a5)=M:=by simp[q3]
          have p4:decide ((m:Int)<0)=I:=Rk K9;clear a6 a2 q3;exact uw
       ·have HL:=fh a0
        have HF:=fh (a6 (by simp[qz,loc,a0]));clear a6 a2 a0;go_wp2_with(fail)
        go_region_held3 (fun w'=>Rb w' ⟨g0,0,C⟩=D (G (D ⟨gi,oi,C⟩) 2 c0)/\Rb w' ⟨g0,1,C⟩=D (G (D ⟨gb,ob,C⟩) 2 c1)/\Rb w' ⟨g0,2,C⟩=D (G (D ⟨ge,oe,C⟩) es.length c2)/\Rb w' ⟨ge,oe+k,C⟩=D (J Z e)) ((repeat' apply Rf) <;> (first | ((repeat (first | assumption | with_reducible refine zd ?_ _ _ | with_reducible refine zo ?_ _ | with_reducible refine zc ?_));done) | (simp[go_sem];done))) (first
         | (go_at_call 82;(with_reducible refine(ya (i:=i) (j:=j) (a:=a) (b:=b) (es:=es) (e:=e) (Ty.up _ m0 gG) (Ty.up _ m1 gG) hci hcj HA.out HB.out he64).mono ?_);rw[HL.out];rintro e w1 ⟨rfl,os1,d1,rfl⟩))
        go_wp2_with(fail);go_ret;exact⟨zp HF.out.symm,hGc.trans gF⟩
      ·obtain rfl:k=es.length:=K9
       have aT:=zd z2 os d;exact vC
def Cq (x:fv)(w:U)(r:Ending)(w':U):Prop:=∃ A0 c0 A1 c1,r=.returned (.agg #[J Z x.Pc,J Z x.Sp,J Z x.Fp,G A0 x.pm.length c0,G A1 x.If.length c1,J Z x.rc,J Z x.Value])/\fU zG w w' [J Z x.Pc,J Z x.Sp,J Z x.Fp,G A0 x.pm.length c0,G A1 x.If.length c1,J Z x.rc,J Z x.Value] x/\fu w w'
theorem xX {S3:Q Nat} {S4:Q Nat} (h0:fE x.Pc)(h1:fE x.Sp)(h2:fE x.Fp)(h3:(zr.sl 3).O w [G A0 x.pm.length c0] x.pm S3)(h4:(zr.sl 3).O w [G A1 x.If.length c1] x.If S4)(h5:fE x.rc)(h6:fE x.Value):zG.O w [J Z x.Pc,J Z x.Sp,J Z x.Fp,G A0 x.pm.length c0,G A1 x.If.length c1,J Z x.rc,J Z x.Value] x (S3++S4):=by
 have h:zG.O w [J Z x.Pc,J Z x.Sp,J Z x.Fp,G A0 x.pm.length c0,G A1 x.If.length c1,J Z x.rc,J Z x.Value] x ([]++([]++([]++(S3++(S4++([]++[])))))):=⟨[J Z x.Pc],[J Z x.Sp,J Z x.Fp,G A0 x.pm.length c0,G A1 x.If.length c1,J Z x.rc,J Z x.Value],[],([]++([]++(S3++(S4++([]++[]))))),rfl,rfl,⟨rfl,h0.1,h0.2,rfl⟩,⟨[J Z x.Sp],[J Z x.Fp,G A0 x.pm.length c0,G A1 x.If.length c1,J Z x.rc,J Z x.Value],[],([]++(S3++(S4++([]++[])))),rfl,rfl,⟨rfl,h1.1,h1.2,rfl⟩,⟨[J Z x.Fp],[G A0 x.pm.length c0,G A1 x.If.length c1,J Z x.rc,J Z x.Value],[],(S3++(S4++([]++[]))),rfl,rfl,⟨rfl,h2.1,h2.2,rfl⟩,⟨[G A0 x.pm.length c0],[G A1 x.If.length c1,J Z x.rc,J Z x.Value],S3,(S4++([]++[])),rfl,rfl,h3,⟨[G A1 x.If.length c1],[J Z x.rc,J Z x.Value],S4,([]++[]),rfl,rfl,h4,⟨[J Z x.rc],[J Z x.Value],[],[],rfl,rfl,⟨rfl,h5.1,h5.2,rfl⟩,⟨rfl,h6.1,h6.2,rfl⟩⟩⟩⟩⟩⟩⟩
 simpa using h
theorem yW {u3 u4:U} {m3 m4:Nat} (h0:fE x.Pc)(h1:fE x.Sp)(h2:fE x.Fp)(h3:kC (zr.sl 3) u3 m3 W [G A0 x.pm.length c0] x.pm)(h4:kC (zr.sl 3) u4 m4 W [G A1 x.If.length c1] x.If)(h5:fE x.rc)(h6:fE x.Value)(hw3:w.heap.size<=u3.heap.size)(hw4:w.heap.size<=u4.heap.size)(hd3_4:m3<=u4.heap.size∨m4<=u3.heap.size):fU zG w W [J Z x.Pc,J Z x.Sp,J Z x.Fp,G A0 x.pm.length c0,G A1 x.If.length c1,J Z x.rc,J Z x.Value] x:=by
 obtain⟨S3,a4,a2,a0⟩:=h3;obtain⟨S4,a5,a3,a1⟩:=h4;exact⟨_,xX h0 h1 h2 a4 a5 h5 h6,RM.2 ⟨a2,a3,fun a ha b hb=>(by have h1:=a0 a ha;have h2:=a1 b hb;omega)⟩,fun b hb=>(Rr.1 hb).elim (fun hb=>(by have:=a0 b hb;omega)) (fun hb=>(by have:=a1 b hb;omega))⟩
def jV (x:fv):Nat:=x.pm.length+x.If.length
theorem wA {e:R5} {xs:Q fv} (h:(zG.sl e).R w B [G A n c] xs){k:Nat}(hk:k<xs.length) :
  ∃ g off x A0 c0 A1 c1,A=D ⟨g,off,C⟩/\g<B/\xs[k]?=D x/\Rb w ⟨g,off+k*7,C⟩=D (J Z x.Pc)/\Rb w ⟨g,off+k*7+1,C⟩=D (J Z x.Sp)/\Rb w ⟨g,off+k*7+2,C⟩=D (J Z x.Fp)/\Rb w ⟨g,off+k*7+3,C⟩=D (G A0 x.pm.length c0)/\Rb w ⟨g,off+k*7+4,C⟩=D (G A1 x.If.length c1)/\Rb w ⟨g,off+k*7+5,C⟩=D (J Z x.rc)/\Rb w ⟨g,off+k*7+6,C⟩=D (J Z x.Value)/\fE x.Pc/\fE x.Sp/\fE x.Fp/\(zr.sl 3).R w B [G A0 x.pm.length c0] x.pm/\(zr.sl 3).R w B [G A1 x.If.length c1] x.If/\fE x.rc/\fE x.Value:=by
 obtain⟨g,off,x,ec,h1,hB,h2,h3,h4⟩:=nU h hk;obtain⟨A0,c0,A1,c1,rfl,hf⟩:=CI h3;exact⟨g,off,x,A0,c0,A1,c1,h1,hB,h2,h4 0 _ rfl,h4 1 _ rfl,h4 2 _ rfl,h4 3 _ rfl,h4 4 _ rfl,h4 5 _ rfl,h4 6 _ rfl,hf⟩
theorem JN:(prog.info? 41).map (fun i=>(i.zero,i.size,i.bytes))=D (D (.agg #[J Z 0,J Z 0,J Z 0,G C 0 0,G C 0 0,J Z 0,J Z 0]),7,88):=Fs
theorem Gp:hU prog 32 41 zG 88:=by
 obtain⟨i0,hi,a0,a1,a2⟩:=Tn JN;exact⟨underlying32,⟨i0,_,hi,a0,a1,a2,rfl⟩,qo⟩
end Go.Proofs.YthgbglbaemelhaaGreat
