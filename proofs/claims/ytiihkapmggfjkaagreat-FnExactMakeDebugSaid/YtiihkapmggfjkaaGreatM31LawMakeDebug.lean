/-
  PART.
-/
import Derived.Test.YtiihkapmggfjkaaGreatM19LawMakeDebug
import Derived.Test.YtiihkapmggfjkaaGreatM30LawMakeDebug
set_option linter.unusedVariables false
set_option linter.unusedSimpArgs false
set_option maxRecDepth 100000
set_option maxHeartbeats 8000000
namespace Go.Proofs.YtiihkapmggfjkaaGreat
open Value renaming slice->J,int->F,bool->X,string->G
open IntKind renaming i64->I,wrap->Ll
open Option renaming none->V,some->H,map_some->Nk
open Obj renaming cells->C
open Bool renaming false->U,true->M
open Go renaming World->N,Calls->LR,Addr->Mh,Value->LA,yielded->NA
open _root_.Int renaming toNat_natCast->Lw
open List renaming length_cons->LJ,getElem?_cons_zero->Mf,length_singleton->Mj,length_nil->Mk,getElem?_cons_succ->MV,range'->Nn
open RowKit renaming intOf->Ml,wrap64->NQ
open Region renaming wanted->MI,ready->MK,noSelect->ND,free->Oq
open Tryz
open Go.RowKit
/-! how the depth of the stack flows through a function's items -/
variable {B a a0 b e f i j k l w:Nat}{Lf leaves:Q Int}{L its:Q fS}{c d d0 hi v:Int}{m:fW}{p:Q fG}{pd:Q Nat}{x:fS}
def EE (p:Q fG)(g:Int):Int:=((zU p ((zk p).getD g.toNat 0)).length:Int)
def ED (c:Int):Bool:=decide (c≠10) && (decide (c≠14) && decide (c≠16))
def ra (c:Int):Bool:=decide (c=10) || decide (c=11)
def qy (p:Q fG)(x:mV)(d:Int):Int:=
 if x.Code=0∨x.Code=1∨x.Code=3 then d+1
 else if x.Code=10∨x.Code=14∨x.Code=16 then d
 else if x.Code=12 then d-EE p x.Arg+1
 else if x.Code=13∨x.Code=15 then d+x.Arg
 else d-1
structure tQ (E:gd)(j:Nat)(x:fS)(d:Int):Prop where
 code:0<=x.Op.Code/\x.Op.Code<=17
 EI:x.fI=(E.gm && decide (0<j))
 dep:x.fK=if (E.gm && decide (0<j))=M then 0 else d
 pos:0<=d
 sf:x.Op.Code=2->1<=d/\(x.Op.Arg<0∨(2<=x.Op.Arg/\x.Op.Arg<=1+E.args))/\E.gm=M
 ss:x.Op.Code=4->1<=d/\(x.Op.Arg<d∨(d<x.Op.Arg/\x.Op.Arg<=d+E.args))/\E.gm=U
 two:5<=x.Op.Code->x.Op.Code<=9->2<=d
 one:x.Op.Code=11∨x.Op.Code=17->1<=d
 call:x.Op.Code=12->0<=x.Op.Arg/\x.Op.Arg<(zk E.p).length/\EE E.p x.Op.Arg<=d
 EJ:x.Op.Code=13->j=0/\0<=x.Op.Arg/\E.gm=M
 KI:x.Op.Code=15->0<=x.Op.Arg/\(j=0->E.gm=U)
 leave:x.Op.Code=14->E.gm=M/\x.Op.Arg=E.args/\1<=d
 ret:x.Op.Code=16->E.gm=U/\x.Op.Arg=E.args+16*E.words/\d=E.words+1
structure ng (E:gd)(L:Q fS)(Lf:Q Int)(kj:Nat->Prop):Prop where
 len:Lf.length=L.length+1
 it:∀(j:Nat) (x:fS) (d:Int),L[j]?=H x->Lf[j]?=H d->tQ E j x d
 s7:∀(j:Nat) (x:fS) (d:Int),L[j]?=H x->Lf[j]?=H d->ED x.Op.Code=M->Lf[j+1]?=H (qy E.p x.Op d)
 jump:∀(j:Nat) (x:fS) (d:Int),L[j]?=H x->Lf[j]?=H d->ra x.Op.Code=M->kj j∨∃ t:Nat,x.Op.Arg=t/\0<t/\Lf[t]?=H (qy E.p x.Op d)
theorem IA {α:Type} {l:Q α} {x y:α} (h:(l++[x])[j]?=H y):(j<l.length/\l[j]?=H y)∨(j=l.length/\y=x):=by
 by_cases hj:j<l.length
 ·rw[Md hj] at h
  exact .inl ⟨hj,h⟩
 ·rw[LV (by omega)] at h
  have hz:j-l.length=0:=by
   have:=(Lh.1 h).1;simp only[Mj] at this;omega
  rw[hz] at h;simp only[Mf,Mg] at h;exact .inr ⟨by omega,h.symm⟩
theorem tW {α:Type} {l r:Q α} {y:α} (h:l[j]?=H y):(l++r)[j]?=H y:=by
 rw[Md (Lh.1 h).1];exact h
theorem ng.snoc {E:gd} {q r:Nat->Prop} (h:ng E L Lf q)(hd:Lf[L.length]?=H d)(hx:tQ E L.length x d)
  (hf:ED x.Op.Code=M->v=qy E.p x.Op d) (hj:ra x.Op.Code=M->r L.length∨∃ t:Nat,x.Op.Arg=t/\0<t/\Lf[t]?=H (qy E.p x.Op d)) (hqr:∀ j,j<L.length->q j->r j):ng E (L++[x]) (Lf++[v]) r:=by
 have a0:=h.len
 have a1:∀(j:Nat) (y:fS) (c:Int),(L++[x])[j]?=H y->(Lf++[v])[j]?=H c->(j<L.length/\L[j]?=H y/\Lf[j]?=H c)∨(j=L.length/\y=x/\c=d):=by
  intro j y c h1 h2;rcases IA h1 with⟨h3,h4⟩ | ⟨h3,h4⟩
  ·rw[Md (by omega)] at h2
   exact .inl ⟨h3,h4,h2⟩
  ·subst h3
   rw[Md (by omega),hd] at h2;injection h2 with h2
   exact .inr ⟨rfl,h4,h2.symm⟩
 refine⟨by simp[a0],?_,?_,?_⟩
 ·intro j y c h1 h2
  rcases a1 j y c h1 h2 with⟨h3,h4,h5⟩ | ⟨h3,h4,h5⟩
  ·exact h.it j y c h4 h5
  ·subst h3 h4 h5;exact hx
 ·intro j y c h1 h2 h6
  rcases a1 j y c h1 h2 with⟨h3,h4,h5⟩ | ⟨h3,h4,h5⟩
  ·exact tW (h.s7 j y c h4 h5 h6)
  ·subst h3 h4 h5
   rw[LV (by omega),hf h6];rw[a0,Mq];rfl
 ·intro j y c h1 h2 h6
  rcases a1 j y c h1 h2 with⟨h3,h4,h5⟩ | ⟨h3,h4,h5⟩
  ·rcases h.jump j y c h4 h5 h6 with h7 | ⟨t,h7,h9,h8⟩
   ·exact .inl (hqr j h3 h7)
   ·exact .inr ⟨t,h7,h9,tW h8⟩
  ·subst h3 h4 h5
   rcases hj h6 with h7 | ⟨t,h7,h9,h8⟩
   ·exact .inl h7
   ·exact .inr ⟨t,h7,h9,tW h8⟩
def JF (p:Q fG)(L:Q fS)(Lf:Q Int)(j:Nat)(v:Int):Prop:=∃ x d,L[j]?=H x/\Lf[j]?=H d/\ra x.Op.Code=M/\qy p x.Op d=v
theorem yL {a b:Int} (h:ra c=M):qy p ⟨c,a⟩ d=qy p ⟨c,b⟩ d:=by
 unfold ra at h;simp only[NU,LQ] at h;rcases h with rfl | rfl <;> simp[qy]
theorem tQ.arg {E:gd} (h:tQ E j x d)(hj:ra x.Op.Code=M):tQ E j { x with Op:=⟨x.Op.Code,v⟩ } d:=by
 unfold ra at hj;simp only[NU,LQ] at hj;refine⟨h.code,h.EI,h.dep,h.pos,?_,?_,h.two,h.one,?_,?_,?_,?_,?_⟩ <;> (simp only;intro hc;omega)
theorem DA {l:Q fS} (h:l[i]?=H x):(zL l j v)[i]?=H (if i=j then { x with Op:=⟨x.Op.Code,v⟩ } else x):=by
 unfold zL;cases hx:l[j]? with
 | none=>
  simp only;have:i≠j:=fun e=>by subst e;rw[h] at hx;cases hx
  rw[Lt this];exact h
 | some y=>
  simp only;by_cases hij:i=j
  ·subst hij
   rw[h] at hx;injection hx with hx
   subst hx;rw[Lu rfl,MP (Lh.1 h).1]
  ·rw[Lt hij,M5 (fun e=>hij e.symm)]
   exact h
theorem JF.set {w:Int} (h:JF p L Lf j v):JF p (zL L i w) Lf j v:=by
 obtain⟨x,d,h1,h2,h3,h4⟩:=h;by_cases hji:j=i
 ·refine⟨{ x with Op:=⟨x.Op.Code,w⟩ },d,by rw[DA h1,Lu hji],h2,h3,?_⟩
  rw[<-h4];exact yL h3
 ·exact⟨x,d,by rw[DA h1,Lt hji],h2,h3,h4⟩
theorem JF.app {L2:Q fS} {D2:Q Int} (h:JF p L Lf j v):JF p (L++L2) (Lf++D2) j v:=by
 obtain⟨x,d,h1,h2,h3,h4⟩:=h;exact⟨x,d,tW h1,tW h2,h3,h4⟩
theorem ng.set {E:gd} {q:Nat->Prop} {v:Nat} {w:Int} (h:ng E L Lf q)(hj:JF E.p L Lf j w)(hv0:0<v)(hv:Lf[v]?=H w):ng E (zL L j v) Lf (fun i=>q i/\i≠j):=by
 obtain⟨x,d,h1,h2,h3,h4⟩:=hj
 have a0:∀(i:Nat) (y:fS),(zL L j v)[i]?=H y->(i≠j/\L[i]?=H y)∨(i=j/\y = { x with Op:=⟨x.Op.Code,(v:Int)⟩ }):=by
  intro i y hy;rcases yG hy with⟨a,b⟩ | ⟨a,z,b,c⟩
  ·exact .inl ⟨a,b⟩
  ·rw[h1] at b
   injection b with b
   subst b;exact .inr ⟨a,c⟩
 refine⟨by rw[qm];exact h.len,?_,?_,?_⟩
 ·intro i y c g1 g2
  rcases a0 i y g1 with⟨a,b⟩ | ⟨rfl,rfl⟩
  ·exact h.it i y c b g2
  ·exact(h.it i x c h1 g2).arg h3
 ·intro i y c g1 g2 g3
  rcases a0 i y g1 with⟨a,b⟩ | ⟨rfl,rfl⟩
  ·exact h.s7 i y c b g2 g3
  ·rw[yL (b:=x.Op.Arg) h3]
   exact h.s7 i x c h1 g2 g3
 ·intro i y c g1 g2 g3
  rcases a0 i y g1 with⟨a,b⟩ | ⟨rfl,rfl⟩
  ·rcases h.jump i y c b g2 g3 with g4 | g4
   ·exact .inl ⟨g4,a⟩
   ·exact .inr g4
  ·rw[h2] at g2
   injection g2 with g2
   subst g2;exact .inr ⟨v,rfl,hv0,by rw[yL (b:=x.Op.Arg) h3];exact hv.trans (MY H h4.symm)⟩
structure St (E:gd)(m:fW)(Lf:Q Int)(q:Nat->Prop):Prop where
 s8:ng E m.items Lf q
 at_:Lf[m.items.length]?=H m.depth
 pos:0<m.items.length
def KJ (p:Q fG)(L L':Q fS):Prop:=∀(Lf D2:Q Int)(j:Nat)(v:Int),JF p L Lf j v->JF p L' (Lf++D2) j v
theorem KJ.refl (p:Q fG)(L:Q fS):KJ p L L:=fun Lf D2 j v h=>by
 have:=h.app (L2:=[]) (D2:=D2);rwa [MC] at this
theorem KJ.trans {a b c:Q fS} (h:KJ p a b)(k:KJ p b c):KJ p a c:=fun Lf D2 j v hj=>by
 have:=k (Lf++D2) [] j v (h Lf D2 j v hj);rwa [MC] at this
theorem KJ.app (p:Q fG)(L L2:Q fS):KJ p L (L++L2):=fun Lf D2 j v h=>h.app
structure FS (E:gd)(m m':fW)(dd:Int):Prop where
 go:∀(Lf:Q Int) (q:Nat->Prop),St E m Lf q->KJ E.p m.items m'.items/\∃ D2,St E m' (Lf++D2) q
 dep:m'.depth=m.depth+dd
theorem FS.refl (E:gd)(m:fW):FS E m m 0:=⟨fun Lf q h=>⟨KJ.refl _ _,[],by rw[MC];exact h⟩,by omega⟩
theorem FS.trans {E:gd}{a b c:fW}{d1 d2:Int}(h:FS E a b d1)(k:FS E b c d2):FS E a c (d1+d2):=
 ⟨fun Lf q hS=>by
  obtain⟨k1,D2,h1⟩:=h.go Lf q hS;obtain⟨k2,D3,h2⟩:=k.go _ q h1
  exact⟨k1.trans k2,D2++D3,by rw[<-LZ];exact h2⟩,by rw[k.dep,h.dep];omega⟩
theorem DZ (E:gd)(m:fW)(code arg line:Int)(chain:Q Int):(mD E m code arg line chain).Op=⟨code,arg⟩:=rfl
theorem FS.emit {E:gd} {code arg line dd:Int} {chain:Q Int} (hx:0<m.items.length->tQ E m.items.length (mD E m code arg line chain) m.depth)(hj:ra code=U)(ho:qy E.p ⟨code,arg⟩ m.depth=m.depth+dd) :
  FS E m ((zv E m code arg line chain).fZ (m.depth+dd)) dd:=by
 refine⟨fun Lf q hS=>⟨KJ.app _ _ _,[m.depth+dd],?_,?_,?_⟩,rfl⟩
 ·refine hS.s8.snoc hS.at_ (hx hS.pos) (fun _=>?_) (fun h=>?_) (fun j _ h=>h)
  ·rw[DZ];exact ho.symm
  ·rw[DZ] at h;simp only at h;rw[hj] at h;cases h
 ·show (Lf++[m.depth+dd])[(m.items++[mD E m code arg line chain]).length]?=H (m.depth+dd)
  have:=hS.s8.len;rw[Lj,Mj,<-this,LV (Lz _),Mq];rfl
 ·simp[zv,fW.fZ]
theorem BK:∀(l:Q fG)(k i:Nat)(x:fG),l[i]?=H x->x.Kind=0->(iS l k)[((iS l k).filter fun a=>decide (a<((k+i:Nat):Int))).length]?=H ((k+i:Nat):Int)
 | [],_,_,_,h,_=>by simp at h
 | y::l,k,i,x,h,h0=>by
  cases i with
  | zero=>
   simp only[Mf,Mg] at h;subst h
   have hz:((iS (y::l) k).filter fun a=>decide (a<((k+0:Nat):Int))) = []:=by
    rw[List.filter_eq_nil_iff];intro a ha;have:=wo (y::l) k a ha;simp;omega
   rw[hz];simp only[iS,h0,Nx,Nat.add_zero,Mk,Mf]
  | succ i=>
   have ih:=BK l (k+1) i x (by simpa using h) h0;rw[show k+1+i=k+(i+1) by omega] at ih;by_cases hy:y.Kind=0
   ·simp only[iS,hy,Nx]
    rw[Nw,Lu (by simp;omega),LJ,MV];exact ih
   ·simp only[iS,hy,if_false]
    exact ih
theorem FJ {x:fG} (hx:p[i]?=H x)(h0:x.Kind=0):∃ n:Nat,nL p (i:Int)=n/\(zk p)[n]?=H (i:Int):=by
 refine⟨_,rfl,?_⟩;have:=BK p 0 i x hx h0;rw[Mb] at this;exact this
def KE (es:Q (Int × Int))(k:Nat)(j:Nat):Prop:=∃ z∈es,z.2=(j:Int)/\((k:Int)<=z.1∨(k:Int)<=-z.1)
structure LX (E:gd)(d0:Int)(i e kh:Nat)(its:Q fS)(leaves fR:Q Int)(fT:Q (Int × Int))(Lf:Q Int):Prop where
 ex:∀ z∈fT,(∃ j:Nat,z.2=j/\JF E.p its Lf j d0)/\z.1<=e/\-(e:Int)<z.1/\(z.1<0->zG E.p (-z.1)=4)
 lv:∀ a∈leaves,∃ j:Nat,a=j/\JF E.p its Lf j (d0+1)
 hl:fR.length=E.p.length
 hd:∀(a:Nat),i<a->a<kh->zG E.p a=5->∃ h:Nat,fR[a]?=H (h:Int)/\0<h/\Lf[h]?=H d0
theorem LX.up {E:gd} {kh:Nat} {its':Q fS} {fR:Q Int} {fT:Q (Int × Int)} (h:LX E d0 i e kh its leaves fR fT Lf)(hk:KJ E.p its its')(D2:Q Int):LX E d0 i e kh its' leaves fR fT (Lf++D2):=
 ⟨fun z hz=>by
  obtain⟨⟨j,h1,h2⟩,h3⟩:=h.ex z hz;exact⟨⟨j,h1,hk Lf D2 j _ h2⟩,h3⟩,fun a ha=>by
  obtain⟨j,h1,h2⟩:=h.lv a ha;exact⟨j,h1,hk Lf D2 j _ h2⟩,h.hl,fun a h1 h2 h3=>by
  obtain⟨g,h4,h6,h5⟩:=h.hd a h1 h2 h3
  exact⟨g,h4,h6,tW h5⟩⟩
def KF (q:Nat->Prop)(leaves:Q Int)(fT:Q (Int × Int))(k:Nat):Nat->Prop:=fun j=>q j∨KE fT k j∨(j:Int)∈leaves
structure LF (E:gd)(d0:Int)(q:Nat->Prop)(i e k:Nat)(L:iN)(Lf:Q Int):Prop where
 st:St E L.m Lf (KF q L.leaves L.fT k)
 dep:L.m.depth=d0
 lx:LX E d0 i e k L.m.items L.leaves L.fR L.fT Lf
theorem xr (p:Q fG)(k item:Int):∀(n a:Nat),∀ z∈lI p k item n a,∃ b:Nat,a<=b/\b<a+n/\zx p b=k/\z=(zJ p b+1,item)
 | 0,_,z,h=>by cases h
 | n+1,a,z,h=>by
  unfold lI at h;split at h
  ·rename_i hc
   rcases LU.1 h with rfl | h
   ·exact⟨a,Lz _,by omega,hc,rfl⟩
   ·obtain⟨b,h1,h2,h3⟩:=xr p k item n (a+1) z h
    exact⟨b,by omega,by omega,h3⟩
  ·obtain⟨b,h1,h2,h3⟩:=xr p k item n (a+1) z h
   exact⟨b,by omega,by omega,h3⟩
theorem Be (p:Q fG)(k item:Int):∀(n a b:Nat),a<=b->b<a+n->zx p b=k->(zJ p b+1,item)∈lI p k item n a
 | 0,a,b,h1,h2,_=>by omega
 | n+1,a,b,h1,h2,h3=>by
  unfold lI;by_cases pM:a=b
  ·subst pM
   rw[Lu h3];exact N6
  ·have:=Be p k item n (a+1) b (by omega) (by omega) h3
   split
   ·exact ML _ this
   ·exact this
def tI (p:Q fG):Prop:=∀(i e j:Nat)(x y:fG),gg p i e->p[i]?=H x->x.Kind=0->i<j->j<e->p[j]?=H y->y.Kind=4->∃ a:Nat,i<=a/\a<j/\zx p a=(j:Int)
theorem LX.fR {E:gd}{d0:Int}{i e k:Nat}{its:Q fS}{leaves fR:Q Int}{fT:Q (Int × Int)}{Lf:Q Int}{h:Nat}(hx:LX E d0 i e k its leaves fR fT Lf)(hk:k<E.p.length)(hh0:0<h)(hh:Lf[h]?=H d0):LX E d0 i e (k+1) its leaves (fR.set k h) fT Lf:=
 ⟨hx.ex,hx.lv,by rw[Ma];exact hx.hl,fun a h1 h2 h3=>by
  by_cases hak:a=k
  ·subst hak
   exact⟨h,by rw[MP (by rw[hx.hl];exact hk)],hh0,hh⟩
  ·obtain⟨g,h4,h6,h5⟩:=hx.hd a h1 (by omega) h3
   exact⟨g,by rw[M5 (fun e=>hak e.symm)];exact h4,h6,h5⟩⟩
theorem LX.skip {E:gd} {fR:Q Int} {fT:Q (Int × Int)} (hx:LX E d0 i e k its leaves fR fT Lf)(hk:zG E.p k≠5):LX E d0 i e (k+1) its leaves fR fT Lf:=
 ⟨hx.ex,hx.lv,hx.hl,fun a h1 h2 h3=>by
  by_cases hak:a=k
  ·subst hak;exact absurd h3 hk
  ·exact hx.hd a h1 (by omega) h3⟩
theorem FS.begun (E:gd)(m:fW):FS E m m.begun 0:=⟨fun Lf q h=>⟨KJ.refl _ _,[],by rw[MC];exact⟨h.s8,h.at_,h.pos⟩⟩,by simp[fW.begun]⟩
theorem IP (h:zs p=M):tI p:=by
 intro i e j x y he hx h0 h1 h2 hy h4;obtain⟨e',a1,hb⟩:=(nt h).body i x hx h0;have:=a1.uniq he;subst this;have hl:=uB hb h1 h2 hy;unfold lZ at hl
 have a0:my p i j=M:=by
  simp only[LC,LQ,h4] at hl;simp_all
 unfold my at a0;obtain⟨a,ha,hb⟩:=Nv.1 a0;have:=Oc.1 ha;exact⟨a,by omega,by omega,Ng hb⟩
theorem Hg {q:Q fG} (hk:ic p q)(h:tI p):tI q:=by
 intro i e j x y he hx h0 h1 h2 hy h4;obtain⟨x',a0,e1⟩:=hk.symm.ex hx;obtain⟨y',a4,e2⟩:=hk.symm.ex hy;obtain⟨a,a1,a2,a3⟩:=h i e j x' y' (hk.symm.ends he) a0 (by omega) h1 h2 a4 (by omega);exact⟨a,a1,a2,by rw[<-hk.np];exact a3⟩
def ry (x:fS):fS:={ x with Start:=U }
def jS (pd:Q Nat)(l:Q fS):Q fS:=l.mapIdx fun i x=>if i∈pd then ry x else x
def iv (pd:Q Nat)(m:fW):fW:=⟨jS pd m.items,m.depth,m.gK,U⟩
structure ia (pd:Q Nat)(m:fW):Prop where
 le:∀ j∈pd,j<=m.items.length
 st:m.start=M↔m.items.length∈pd
 go:∀(j:Nat) (x:fS),j∈pd->m.items[j]?=H x->x.Start=M
theorem wF (pd:Q Nat)(l:Q fS):(jS pd l).length=l.length:=by unfold jS;simp
theorem qn (pd:Q Nat)(l:Q fS)(i:Nat):(jS pd l)[i]?=(l[i]?).map fun x=>if i∈pd then ry x else x:=by unfold jS;simp
theorem IK (pd:Q Nat)(l:Q fS)(x:fS):jS pd (l++[x])=jS pd l++[if l.length∈pd then ry x else x]:=by
 unfold jS;rw[List.mapIdx_append];simp
theorem J7 (h:x.Start=U):ry x=x:=by
 unfold ry;rw[<-h]
theorem lN (pd:Q Nat)(m:fW):(iv pd m).items.length=m.items.length:=wF _ _
theorem wj {E:gd} (h:ia pd m)(code arg line:Int)(chain:Q Int):zv E (iv pd m) code arg line chain=iv pd (zv E m code arg line chain):=by
 unfold zv
 have hi:mD E (iv pd m) code arg line chain=ry (mD E m code arg line chain):=by
  unfold mD ry;rw[lN];rfl
 rw[hi];unfold iv;simp only[IK];congr 1;by_cases hm:m.items.length∈pd
 ·rw[Lu hm]
 ·rw[Lt hm,J7]
  have:m.start=U:=by
   cases hs:m.start with
   | true=>exact absurd (h.st.1 hs) hm
   | false=>rfl
  exact this
theorem ia.emit {E:gd} (h:ia pd m)(code arg line:Int)(chain:Q Int):ia pd (zv E m code arg line chain):=by
 have hl:=qT E m code arg line chain;refine⟨fun j hj=>?_,?_,fun j x hj hx=>?_⟩
 ·have:=h.le j hj;omega
 ·refine⟨fun hs=>absurd hs (by simp[zv]),fun hs=>?_⟩
  have:=h.le _ hs;omega
 ·unfold zv at hx
  simp only at hx;rw[OB] at hx;split at hx
  ·exact h.go j x hj hx
  ·have a0:=h.le j hj
   have:j-m.items.length=0:=by omega
   rw[this] at hx;simp only[Mf,Mg] at hx;subst hx;have:j=m.items.length:=by omega
   subst this;exact h.st.2 hj
theorem ia.of {m':fW} (h:ia pd m)(hi:m'.items=m.items)(hs:m'.start=m.start):ia pd m':=
 ⟨fun j hj=>by rw[hi];exact h.le j hj,by rw[hi,hs];exact h.st,fun j x hj hx=>by rw[hi] at hx;exact h.go j x hj hx⟩
theorem ia.fZ {pd:Q Nat}{m:fW}(h:ia pd m)(d:Int):ia pd (m.fZ d):=h.of rfl rfl
theorem ia.iY {pd:Q Nat}{m:fW}(h:ia pd m)(d:Int):ia pd (m.iY d):=h.of rfl rfl
theorem C5 (pd:Q Nat)(l:Q fS)(j:Nat)(v:Int):zL (jS pd l) j v=jS pd (zL l j v):=by
 unfold zL;rw[qn];cases hx:l[j]? with
 | none=>rfl
 | some x=>
  simp only[Nk];apply Nr;intro i;rw[qn,NY,NY,wF,qn];by_cases hji:j=i
  ·subst hji
   have hl:=(Lh.1 hx).1;rw[Lu rfl,Lu rfl,Lu hl,Lu hl];simp only[Nk];by_cases hm:j∈pd
   ·simp only[Lu hm];rfl
   ·simp only[Lt hm]
  ·rw[Lt hji,Lt hji]
theorem ia.arg (h:ia pd m)(j:Nat)(v:Int):ia pd (m.gU (zL m.items j v)):=by
 refine⟨fun i hi=>?_,?_,fun i x hi hx=>?_⟩
 ·simp only[fW.gU,qm];exact h.le i hi
 ·simp only[fW.gU,qm];exact h.st
 ·simp only[fW.gU] at hx
  rcases yG hx with⟨_,h2⟩ | ⟨rfl,y,h2,rfl⟩
  ·exact h.go i x hi h2
  ·exact h.go i y hi h2
theorem BY (pd:Q Nat)(v:Int):∀(js:Q Int)(l:Q fS),km (jS pd l) js v=jS pd (km l js v)
 | [],_=>rfl
 | j::js,l=>by
  show km (zL (jS pd l) j.toNat v) js v=jS pd (km (zL l j.toNat v) js v);rw[C5,BY pd v js]
theorem ia.args {pd:Q Nat}(v:Int):∀(js:Q Int){m:fW},ia pd m->ia pd (m.gU (km m.items js v))
 | [],_,h=>h.of rfl rfl
 | j::js,m,h=>by
  have:=ia.args v js (h.arg j.toNat v);exact this.of rfl rfl
theorem ia.begin (h:ia pd m):ia (m.items.length::pd) m.begun:=by
 refine⟨fun j hj=>?_,⟨fun _=>by simp[fW.begun],fun _=>rfl⟩,fun j x hj hx=>?_⟩
 ·rcases LU.1 hj with rfl | hj
  ·exact Lz _
  ·exact h.le j hj
 ·rcases LU.1 hj with rfl | hj
  ·have:=(Lh.1 hx).1
   simp only[fW.begun] at this;omega
  ·exact h.go j x hj hx
theorem IJ {l:Q fS} (h:l.length<=b):jS (b::pd) l=jS pd l:=by
 apply Nr;intro i;rw[qn,qn];cases hx:l[i]? with
 | none=>rfl
 | some x=>
  have:=(Lh.1 hx).1;have a0:i≠b:=by omega
  simp[LU,a0]
theorem CM (pd:Q Nat)(m:fW):iv (m.items.length::pd) m.begun=iv pd m:=by
 unfold iv fW.begun;simp only[IJ (Lz _)]
theorem ia.close (h:ia (b::pd) m)(hb:b<m.items.length)(hs:m.start=U):ia pd m:=by
 refine⟨fun j hj=>h.le j (ML _ hj),⟨fun hh=>(by rw[hs] at hh;cases hh),fun hh=>h.st.2 (ML _ hh)⟩,fun j x hj hx=>h.go j x (ML _ hj) hx⟩
theorem H5 (h:ia (b::pd) m)(hn:b∉pd)(hx:(jS (b::pd) m.items)[b]?=H x):(jS (b::pd) m.items).set b { x with Start:=M }=jS pd m.items:=by
 rw[qn] at hx;cases hy:m.items[b]? with
 | none=>rw[hy] at hx;cases hx
 | some y=>
  rw[hy] at hx;simp only[Nk,LU,true_or,Nx,Mg] at hx;subst hx;have hg:=h.go b y (N6) hy;apply Nr;intro i;rw[NY,wF,qn,qn];by_cases hi:b=i
  ·subst hi
   have hl:=(Lh.1 hy).1;rw[Lu rfl,Lu hl,hy];simp only[Nk,Lt hn];unfold ry;simp only;rw[<-hg]
  ·rw[Lt hi]
   cases m.items[i]? with
   | none=>rfl
   | some z=>
    have a0:i≠b:=fun h=>hi h.symm;simp[LU,a0]
theorem ia.idle (h:ia pd m)(hs:m.start=U):m.items.length∉pd:=fun hh=>by
 have:=h.st.2 hh;rw[hs] at this;cases this
theorem D9 (l:Q fS):jS [] l=l:=by
 apply Nr;intro i;rw[qn];cases l[i]? <;> simp
def lU (p:Q fG)(f:Nat)(zf:Nat->Int)(j:Nat):Q (Int × Int):=
 if zG p j=4 then lI p j (zf j) (j-f) f
 else if zG p j=3∨zG p j=5 then [(if zG p j=3/\0<=zx p j then -(zx p j) else zJ p j+1,zf j)] else []
def l1 (p:Q fG)(f:Nat)(zf:Nat->Int)(k:Nat):Q (Int × Int):=(Nn (f+1) (k-(f+1))).flatMap (lU p f zf)
theorem FO (p:Q fG)(f:Nat)(zf:Nat->Int):l1 p f zf (f+1) = []:=by unfold l1;simp
theorem xJ (p:Q fG)(f:Nat)(zf:Nat->Int){k:Nat}(h:f<k):l1 p f zf (k+1)=l1 p f zf k++lU p f zf k:=by
 unfold l1;rw[show k+1-(f+1)=k-(f+1)+1 from by omega,List.range'_concat];simp only[List.flatMap_append,Od,List.flatMap_nil,MC,N0];rw[show f+1+(k-(f+1))=k from by omega]
theorem Hj {zf zg:Nat->Int} (h:zf j=zg j):lU p f zf j=lU p f zg j:=by unfold lU;rw[h]
theorem FN {zf zg:Nat->Int} (h:∀ j,j<k->zf j=zg j):l1 p f zf k=l1 p f zg k:=by
 unfold l1
 have:∀(n a:Nat),a+n<=k->(Nn a n).flatMap (lU p f zf)=(Nn a n).flatMap (lU p f zg):=by
  intro n;induction n with
  | zero=>intro a _;rfl
  | succ n ih=>
   intro a ha;simp only[OK,Od];rw[Hj (h a (by omega)),ih (a+1) (by omega)]
 by_cases hk:f+1<=k
 ·exact this _ _ (by omega)
 ·rw[show k-(f+1)=0 from by omega];rfl
theorem qL {zf:Nat->Int} {z:Int × Int}:z∈l1 p f zf k↔∃ j,f<j/\j<k/\z∈lU p f zf j:=by
 unfold l1;rw[List.mem_flatMap];constructor
 ·rintro⟨j,h1,h2⟩
  rw[Oc] at h1;exact⟨j,by omega,by omega,h2⟩
 ·rintro⟨j,h1,h2,h3⟩
  exact⟨j,by rw[Oc];omega,h3⟩
theorem Iu (p:Q fG)(k:Int) : -1<=zJ p k:=by
 rcases po p k with h | ⟨a,e,_,h,_⟩ <;> omega
theorem qK (h:zx p a=(l:Int)):ir p a l:=by
 rcases nI p a with h1 | ⟨j,h1,h2⟩
 ·omega
 ·obtain rfl:j=l:=by omega
  exact h2
def lF (p:Q fG)(a:Nat):Nat:=if 0<=zx p a then (zx p a).toNat else a
theorem vT {zf:Nat->Int} {z:Int × Int} (hj:f<j)(h:z∈lU p f zf j):z.2=zf j/\((∃ a:Nat,z.1=zJ p a+1/\lF p a=j/\f<=a/\a<=j)∨(zG p j=3/\0<=zx p j/\z.1 = -(zx p j))):=by
 unfold lU at h;split at h
 ·obtain⟨b,h1,h2,h3,rfl⟩:=xr p j (zf j) _ _ z h
  refine⟨rfl,.inl ⟨b,rfl,?_,h1,by omega⟩⟩;unfold lF;rw[h3,Lu (by omega),Lw]
 ·rename_i h4
  split at h
  ·rename_i h35
   rw[Lr] at h;subst h;refine⟨rfl,?_⟩;simp only;by_cases hc:zG p j=3/\0<=zx p j
   ·rw[Lu hc];exact .inr ⟨hc.1,hc.2,rfl⟩
   ·rw[Lt hc]
    refine .inl ⟨j,rfl,?_,?_,Lz _⟩
    ·unfold lF
     rw[Lt (fun h0=>hc ⟨?_,h0⟩)];rcases nI p j with he | ⟨l,he,hE⟩
     ·omega
     ·obtain⟨x,hx,h3⟩:=hE.iff
      rw[lq hx];exact h3
    ·omega
  ·simp at h
theorem Iv {zf:Nat->Int} {z:Int × Int} (hj:f<j)(h:z∈lU p f zf j)(ht:z.1=(i:Int)+1)(he:gg p a i):z.2=zf (lF p a):=by
 obtain⟨h1,h2⟩:=vT hj h;rw[h1];rcases h2 with⟨b,hb,a0,_⟩ | ⟨_,h3,h4⟩
 ·have a1:zJ p b=(i:Int):=by omega
  have:=(vS a1).same he;subst this;rw[a0]
 ·omega
theorem Eg {zf:Nat->Int} (hf:f<a)(he:gg p a i)(hk:zG p a=3∨zG p a=5):f<lF p a/\lF p a<i/\((i:Int)+1,zf (lF p a))∈lU p f zf (lF p a):=by
 have a0:=he.lt;rcases nI p a with h | ⟨l,h,hE⟩
 ·have ho:lF p a=a:=by unfold lF;rw[h];rfl
  rw[ho];refine⟨hf,a0,?_⟩;unfold lU;rw[Lt (by omega),Lu hk,Lt (by omega),he.iy];simp
 ·have ho:lF p a=l:=by unfold lF;rw[h,Lu (by omega),Lw]
  rw[ho];have h1:=hE.lt;obtain⟨e2,h2,h3⟩:=hE.iX;obtain rfl:=h2.uniq he;obtain⟨x,hx,h4⟩:=hE.np;refine⟨by omega,h3,?_⟩;unfold lU;rw[Lu (by rw[lq hx];exact h4)];have:=Be p l (zf l) (l-f) f a (by omega) (by omega) h;rw[he.iy] at this;exact this
theorem H9 {zf:Nat->Int} {z:Int × Int} (hj:f<j)(h:z∈lU p f zf j)(hl:0<l)(ht:z.1 = -(l:Int))(he:ir p a l):z.2=zf a:=by
 obtain⟨h1,h2⟩:=vT hj h;rw[h1];rcases h2 with⟨b,hb,_,_⟩ | ⟨_,h3,h4⟩
 ·have:=Iu p b;omega
 ·have:zx p j=(l:Int):=by omega
  have:=(qK this).same he;rw[this]
theorem DJ {zf:Nat->Int} (h:zx p a=(l:Int)):(-(l:Int),zf a)∈lU p f zf a:=by
 have hE:=qK h;obtain⟨x,hx,h3⟩:=hE.iff;unfold lU;rw[lq hx,Lt (by omega),Lu (.inl h3),Lu ⟨h3,by omega⟩,h];simp
theorem Gn (l:Q fS)(j:Nat)(v:Int):zL (zL l j v) j v=zL l j v:=by
 cases hx:l[j]? with
 | none=>
  have:zL l j v=l:=by unfold zL;rw[hx]
  rw[this,this]
 | some x=>
  have h1:zL l j v=l.set j { x with Op:=⟨x.Op.Code,v⟩ }:=by unfold zL;rw[hx]
  rw[h1];unfold zL;rw[MP (Lh.1 hx).1];simp
theorem xY:∀(es:Q (Int × Int))(l:Q fS)(t v:Int),(∀ z∈es,z.1≠t)->kV l es t v=l
 | [],_,_,_,_=>rfl
 | z::es,l,t,v,h=>by
  show kV (if z.1=t then zL l z.2.toNat v else l) es t v=l;rw[Lt (h z (N6))];exact xY es l t v (fun y hy=>h y (ML _ hy))
theorem xC:∀(es:Q (Int × Int))(l:Q fS)(t v w:Int),(∀ z∈es,z.1=t->z.2=w)->kV (zL l w.toNat v) es t v=zL l w.toNat v
 | [],_,_,_,_,_=>rfl
 | z::es,l,t,v,w,h=>by
  show kV (if z.1=t then zL (zL l w.toNat v) z.2.toNat v else zL l w.toNat v) es t v=_;by_cases hz:z.1=t
  ·rw[Lu hz,h z (N6) hz,Gn]
   exact xC es l t v w (fun y hy=>h y (ML _ hy))
  ·rw[Lt hz]
   exact xC es l t v w (fun y hy=>h y (ML _ hy))
theorem yF:∀(es:Q (Int × Int))(l:Q fS)(t v w:Int),(∀ z∈es,z.1=t->z.2=w)->(∃ z∈es,z.1=t)->kV l es t v=zL l w.toNat v
 | [],_,_,_,_,_,h=>by obtain⟨z,hz,_⟩:=h;cases hz
 | z::es,l,t,v,w,h,hh=>by
  show kV (if z.1=t then zL l z.2.toNat v else l) es t v=_;by_cases hz:z.1=t
  ·rw[Lu hz,h z (N6) hz]
   exact xC es l t v w (fun y hy=>h y (ML _ hy))
  ·rw[Lt hz]
   refine yF es l t v w (fun y hy=>h y (ML _ hy)) ?_;obtain⟨y,hy,h1⟩:=hh;rcases LU.1 hy with rfl | hy
   ·exact absurd h1 hz
   ·exact⟨y,hy,h1⟩
theorem Hz {zf:Nat->Int} (hf:f<a)(he:gg p a i)(hk:zG p a=3∨zG p a=5)(l:Q fS)(v:Int):kV l (l1 p f zf (i+1)) ((i+1:Nat):Int) v=zL l (zf (lF p a)).toNat v:=by
 obtain⟨h1,h2,h3⟩:=Eg (zf:=zf) hf he hk;refine yF _ _ _ _ _ (fun z hz ht=>?_) ⟨_,qL.2 ⟨lF p a,h1,by omega,h3⟩,by simp⟩;obtain⟨j,g1,g2,g3⟩:=qL.1 hz;exact Iv g1 g3 (by omega) he
theorem uZ {zf:Nat->Int} (h7:zG p i≠7)(l:Q fS)(v:Int):kV l (l1 p f zf k) ((i+1:Nat):Int) v=l:=by
 refine xY _ _ _ _ (fun z hz ht=>?_);obtain⟨j,g1,g2,g3⟩:=qL.1 hz;obtain⟨_,h2⟩:=vT g1 g3;rcases h2 with⟨b,hb,_,_⟩ | ⟨_,h3,h4⟩
 ·have a0:zJ p b=(i:Int):=by omega
  obtain⟨x,hx,a1⟩:=(vS a0).last;exact h7 (by rw[lq hx];exact a1)
 ·omega
theorem G0 {zf:Nat->Int} (hf:f<a)(h:zx p a=(l:Int))(its:Q fS)(v:Int):kV its (l1 p f zf (l+1)) (-(l:Int)) v=zL its (zf a).toNat v:=by
 have hE:=qK h;have hl:=hE.lt;refine yF _ _ _ _ _ (fun z hz ht=>?_) ⟨_,qL.2 ⟨a,hf,by omega,DJ h⟩,rfl⟩;obtain⟨j,g1,g2,g3⟩:=qL.1 hz;exact H9 g1 g3 (by omega) ht hE
def jm (p:Q fG)(f:Nat)(zf:Nat->Int)(k:Nat):Int->K Int:=fun a=>
 if (f:Int)<a/\a<k/\(zG p a=3∨zG p a=5)/\¬ (0<=zx p a/\zx p a<k) then H (zf a.toNat) else V
def kD (p:Q fG)(f:Nat)(zf:Nat->Int)(k:Nat):Int->K Int:=fun a=>
 if (f:Int)<a/\0<=zx p a/\zx p a<k then H (zf (zx p a).toNat) else V
def mA (f:Nat)(h:Nat->Int)(k:Nat):Int->K Int:=fun a=>if (f:Int)<a/\a<k then H (h a.toNat) else V
theorem xm {a:Int} (h0:0<=a)(h:zx p a=(k:Int)):zG p k=4/\∃ b:Nat,a=(b:Int)/\ir p b k:=by
 obtain⟨b,rfl⟩:∃ b:Nat,a=(b:Int):=⟨a.toNat,by omega⟩
 have hE:=qK h;obtain⟨x,hx,h4⟩:=hE.np;exact⟨by rw[lq hx];exact h4,b,rfl,hE⟩
theorem Gt (p:Q fG)(f:Nat)(zf:Nat->Int):jm p f zf (f+1)=fun _=>V:=by
 funext a;unfold jm;rw[Lt (by omega)]
theorem Gy (p:Q fG)(f:Nat)(zf:Nat->Int):kD p f zf (f+1)=fun _=>V:=by
 funext a;unfold kD;rw[Lt ?_];rintro⟨h1,h2,h3⟩;obtain⟨c,hc⟩:∃ c:Nat,zx p a=(c:Int):=⟨(zx p a).toNat,by omega⟩
 obtain⟨_,b,rfl,hE⟩:=xm (by omega) hc;have:=hE.lt;omega
theorem FA (f:Nat)(h:Nat->Int):mA f h (f+1)=fun _=>V:=by
 funext a;unfold mA;rw[Lt (by omega)]
theorem FW (f:Nat)(h:Nat->Int){k:Nat}(hk:f<k):mA f h (k+1)=jg (mA f h k) k (h k):=by
 funext a;simp only[mA,jg];by_cases ha:a=(k:Int)
 ·subst ha;rw[Lu (by omega),Lu rfl,Lw]
 ·rw[Lt ha]
  by_cases h1:(f:Int)<a/\a<k
  ·rw[Lu h1,Lu (by omega)]
  ·rw[Lt h1,Lt (by omega)]
theorem At (h4:zG p k≠4)(a:Int)(ha:0<=a):(0<=zx p a/\zx p a<((k+1:Nat):Int))↔(0<=zx p a/\zx p a<(k:Int)):=by
 constructor
 ·rintro⟨h1,h2⟩
  refine⟨h1,?_⟩;by_cases hk:zx p a=(k:Int)
  ·exact absurd (xm ha hk).1 h4
  ·omega
 ·rintro⟨h1,h2⟩;omega
theorem sJ {g:Prop} (f:g:=by
  by_cases hk:a=(k:Int)
  ·subst hk
   rw[Lt (by omega),Lt (by omega)]
  ·have:(a<((k+1:Nat):Int))↔a<(k:Int):=by omega
   simp only[this]):g:=f
theorem uO {zf:Nat->Int} (h4:zG p k≠4)(h3:zG p k≠3)(h5:zG p k≠5):jm p f zf (k+1)=jm p f zf k:=by
 funext a;unfold jm;by_cases ha:(f:Int)<a
 ·simp only[At h4 a (by omega)]
  exact sJ
 ·rw[Lt (fun h=>ha h.1),Lt (fun h=>ha h.1)]
theorem Jb {zf:Nat->Int} (hf:f<k)(hk:zG p k=3∨zG p k=5):jm p f zf (k+1)=jg (jm p f zf k) k (zf k):=by
 funext a;unfold jg;by_cases hak:a=(k:Int)
 ·subst hak
  rw[Lu rfl];unfold jm
  have:¬ (0<=zx p (k:Int)/\zx p (k:Int)<((k+1:Nat):Int)):=by
   rintro⟨h1,h2⟩;rcases nI p k with h | ⟨l,h,hE⟩
   ·omega
   ·have:=hE.lt;omega
  rw[Lu ⟨by omega,by omega,hk,this⟩,Lw]
 ·rw[Lt hak];unfold jm
  by_cases ha:(f:Int)<a
  ·have a0:zG p k≠4:=by omega
   simp only[At a0 a (by omega)];have:(a<((k+1:Nat):Int))↔a<(k:Int):=by omega
   simp only[this]
  ·rw[Lt (fun h=>ha h.1),Lt (fun h=>ha h.1)]
theorem sh {g:Prop} (f:g:=by
  constructor
  ·rintro⟨h1,h2⟩
   refine⟨h1,?_⟩
   by_cases hk:zx p a=(k:Int)
   ·obtain⟨_,b,rfl,hb⟩:=xm (by omega) hk
    have:=hb.same hE
    subst this
    exact absurd rfl ha0
   ·omega
  ·rintro⟨h1,h2⟩;omega):g:=f
theorem Ja {zf:Nat->Int} (h:zx p a0=(k:Int)):jm p f zf (k+1)=rv (jm p f zf k) a0:=by
 have hE:=qK h;obtain⟨y,hy,a1⟩:=hE.np;have a2:zG p k=4:=by rw[lq hy];exact a1
 funext a;unfold rv;by_cases ha0:a=(a0:Int)
 ·subst ha0
  rw[Lu rfl];unfold jm;rw[Lt];rintro⟨_,_,_,h4⟩;exact h4 ⟨by omega,by omega⟩
 ·rw[Lt ha0];unfold jm
  by_cases ha:(f:Int)<a
  ·have h1:(0<=zx p a/\zx p a<((k+1:Nat):Int))↔(0<=zx p a/\zx p a<(k:Int)):=by
    exact sh
   simp only[h1];exact sJ
  ·rw[Lt (fun h=>ha h.1),Lt (fun h=>ha h.1)]
theorem yE {zf:Nat->Int} (h4:zG p k≠4):kD p f zf (k+1)=kD p f zf k:=by
 funext a;unfold kD;by_cases ha:(f:Int)<a
 ·simp only[At h4 a (by omega)]
 ·rw[Lt (fun h=>ha h.1),Lt (fun h=>ha h.1)]
theorem Hy {zf:Nat->Int} (hf:f<a0)(h:zx p a0=(k:Int)):kD p f zf (k+1)=jg (kD p f zf k) a0 (zf k):=by
 have hE:=qK h;funext a;unfold jg;by_cases ha0:a=(a0:Int)
 ·subst ha0
  rw[Lu rfl];unfold kD;rw[Lu ⟨by omega,by omega,by omega⟩,h,Lw]
 ·rw[Lt ha0];unfold kD
  by_cases ha:(f:Int)<a
  ·have h1:(0<=zx p a/\zx p a<((k+1:Nat):Int))↔(0<=zx p a/\zx p a<(k:Int)):=by
    exact sh
   simp only[h1]
  ·rw[Lt (fun h=>ha h.1),Lt (fun h=>ha h.1)]
theorem Jv {zf:Nat->Int} (hf:f<a)(he:gg p a i)(hk:zG p a=3∨zG p a=5):(jm p f zf i a=H (zf (lF p a))/\kD p f zf i a=V)∨(jm p f zf i a=V/\kD p f zf i a=H (zf (lF p a))):=by
 have a0:=he.lt;unfold jm kD lF;rcases nI p a with h | ⟨l,h,hE⟩
 ·rw[h,Lu ⟨by omega,by omega,hk,by omega⟩,Lt (by omega),Lt (by omega)]
  exact .inl ⟨rfl,rfl⟩
 ·obtain⟨e2,h2,h3⟩:=hE.iX
  obtain rfl:=h2.uniq he;refine .inr ⟨Lt (fun hh=>hh.2.2.2 ⟨by omega,by omega⟩),?_⟩;rw[Lu ⟨by omega,by omega,by omega⟩,Lu (by omega)]
theorem Jc {zf:Nat->Int} (hf:f<a)(h:zx p a=(l:Int)):jm p f zf l a=H (zf a):=by
 have hE:=qK h;have a0:=hE.lt;obtain⟨x,hx,h3⟩:=hE.iff;unfold jm;rw[Lu ⟨by omega,by omega,.inl (by rw[lq hx];exact h3),by omega⟩,Lw]
theorem th {zf zg:Nat->Int} (h:∀ j,j<k->zf j=zg j):jm p f zf k=jm p f zg k:=by
 funext a;unfold jm;by_cases hc:(f:Int)<a/\a<k/\(zG p a=3∨zG p a=5)/\¬ (0<=zx p a/\zx p a<k)
 ·rw[Lu hc,Lu hc,h _ (by omega)]
 ·rw[Lt hc,Lt hc]
theorem vL {zf zg:Nat->Int} (h:∀ j,j<k->zf j=zg j):kD p f zf k=kD p f zg k:=by
 funext a;unfold kD;by_cases hc:(f:Int)<a/\0<=zx p a/\zx p a<k
 ·rw[Lu hc,Lu hc,h _ (by omega)]
 ·rw[Lt hc,Lt hc]
theorem Fz {zf zg:Nat->Int} (h:∀ j,j<k->zf j=zg j):mA f zf k=mA f zg k:=by
 funext a;unfold mA;by_cases hc:(f:Int)<a/\a<k
 ·rw[Lu hc,Lu hc,h _ (by omega)]
 ·rw[Lt hc,Lt hc]
theorem wI {x:mV} {lo:Int} (h:jw x.Code=(w,M))(hl : -(2 ^ (8*w-1))=lo)(hh:2 ^ (8*w-1)-1=hi):jX x=(gW x.Code 0 17 && gW x.Arg lo hi):=by
 unfold jX;rw[h,<-hl,<-hh];rfl
theorem uc {x:mV} (h:jw x.Code=(w,U))(hh:2 ^ (8*w)-1=hi):jX x=(gW x.Code 0 17 && gW x.Arg 0 hi):=by
 unfold jX;rw[h,<-hh];rfl
theorem uz {sg:Bool} (h:jw c=(w,sg))(hb:gW c 0 17=M):zA c=(w:Int)+1:=by
 unfold zA;rw[Lu hb,h]
theorem pK {g:Prop} (f:g:=by
  have HA:=fE hz
  have HW:=fE h
  have HB:=fE hb
  have HZ:=fE (uz h hb)
  clear hb h hz
  go_enter func182,ntmps182
  go_wp2_with(first | (go_at_call 181;(with_reducible refine(zeP _ _).mono ?_);rw[HW.out];rintro e w1 ⟨rfl,rfl⟩) | (go_at_call 33;(with_reducible refine(lj _ _ _ _).mono ?_);rw[HB.out];rintro e w2 ⟨rfl,rfl⟩) | (go_at_call 33;(with_reducible refine(lj _ _ _ _).mono ?_);rw[HA.out];rintro e w3 ⟨rfl,rfl⟩))
  go_ret
  exact⟨zy HO.out.symm,gG⟩):g:=f
theorem zro (x:mV)(w:N):LR prog 182 #[.agg #[F I x.Code,F I x.Arg]] w fun e w'=>e=.returned (X (jX x))/\fF w w':=by
 cases hb:gW x.Code 0 17
 ·have HO:=fE (show jX x=U from by unfold jX;rw[hb];rfl)
  have HB:=fE hb;have HZ:=fE (show zA x.Code=0 from by unfold zA;rw[hb];rfl);clear hb;go_enter func182,ntmps182;go_wp2_with(first | (go_at_call 181;(with_reducible refine(zeP _ _).mono ?_);rintro e w1 ⟨rfl,rfl⟩) | (go_at_call 33;(with_reducible refine(lj _ _ _ _).mono ?_);rw[HB.out];rintro e w2 ⟨rfl,rfl⟩));go_ret;exact⟨zy HO.out.symm,gG⟩
 ·rcases yw x.Code with h | h | h | h | h
  ·obtain⟨z,hz⟩:∃ z,gW x.Arg (-2147483648) 2147483647=z:=⟨_,rfl⟩
   have HO:Hid (jX x=z):=fE (by rw[wI h (lo:=-2147483648) (hi:=2147483647) (by rfl) (by rfl),hb,hz];rfl);exact pK
  ·obtain⟨z,hz⟩:∃ z,gW x.Arg (-32768) 32767=z:=⟨_,rfl⟩
   have HO:Hid (jX x=z):=fE (by rw[wI h (lo:=-32768) (hi:=32767) (by rfl) (by rfl),hb,hz];rfl);exact pK
  ·obtain⟨z,hz⟩:∃ z,gW x.Arg 0 65535=z:=⟨_,rfl⟩
   have HO:Hid (jX x=z):=fE (by rw[uc h (hi:=65535) (by rfl),hb,hz];rfl);exact pK
  ·obtain⟨z,hz⟩:∃ z,gW x.Arg 0 255=z:=⟨_,rfl⟩
   have HO:Hid (jX x=z):=fE (by rw[uc h (hi:=255) (by rfl),hb,hz];rfl);exact pK
  ·obtain⟨z,hz⟩:∃ z,gW x.Arg 0 0=z:=⟨_,rfl⟩
   have HO:Hid (jX x=z):=fE (by rw[uc h (hi:=0) (by rfl),hb,hz];rfl);exact pK
theorem pD {g:Prop} (f:g:=by
  go_enter func196,ntmps196
  go_wp2_with(first | (go_at_call 114;(with_reducible refine(zcV _ _).mono ?_);rw[HZ.out];rintro e w0 ⟨rfl,rfl⟩) | (go_at_call 197;(with_reducible refine(zcx _ _).mono ?_);rw[HW.out];rintro e w1 ⟨rfl,rfl⟩) | (go_at_call 43;(with_reducible refine(jr _ _ _ _).mono ?_);rw[HB.out];rintro e w2 ⟨rfl,rfl⟩) | (go_at_call 43;(with_reducible refine(jr _ _ _ _).mono ?_);rw[HA.out];rintro e w3 ⟨rfl,rfl⟩))
  go_quiet ((first | (go_at_call 43;with_reducible exact JE HA.out _ _)))
  go_wp2_with(fail)
  go_ret
  exact⟨zy HO.out.symm,gG⟩):g:=f
theorem rG {g:Prop} (f:g:=by
  have HA:=fE hz
  have HW:=fE h
  have HB:=fE hb
  have HZ:=fE (uz h hb)
  clear hb h hz
  go_enter func196,ntmps196
  go_wp2_with(first | (go_at_call 114;(with_reducible refine(zcV _ _).mono ?_);rw[HZ.out];rintro e w0 ⟨rfl,rfl⟩) | (go_at_call 197;(with_reducible refine(zcx _ _).mono ?_);rw[HW.out];rintro e w1 ⟨rfl,rfl⟩) | (go_at_call 43;(with_reducible refine(jr _ _ _ _).mono ?_);rw[HB.out];rintro e w2 ⟨rfl,rfl⟩) | (go_at_call 43;(with_reducible refine(jr _ _ _ _).mono ?_);rw[HA.out];rintro e w3 ⟨rfl,rfl⟩))
  go_ret
  exact⟨zy HO.out.symm,gG⟩):g:=f
theorem zrn (x:mV)(w:N):LR prog 196 #[.agg #[F I x.Code,F I x.Arg]] w fun e w'=>e=.returned (X (jX x))/\fF w w':=by
 cases hb:gW x.Code 0 17
 ·have HO:=fE (show jX x=U from by unfold jX;rw[hb];rfl)
  have HB:=fE hb;have HZ:=fE (show zA x.Code=0 from by unfold zA;rw[hb];rfl);clear hb;go_enter func196,ntmps196;go_wp2_with(first | (go_at_call 114;(with_reducible refine(zcV _ _).mono ?_);rw[HZ.out];rintro e w0 ⟨rfl,rfl⟩) | (go_at_call 197;(with_reducible refine(zcx _ _).mono ?_);rintro e w1 ⟨rfl,rfl⟩) | (go_at_call 43;(with_reducible refine(jr _ _ _ _).mono ?_);rw[HB.out];rintro e w2 ⟨rfl,rfl⟩));go_ret;exact⟨zy HO.out.symm,gG⟩
 ·rcases yw x.Code with h | h | h | h | h
  ·obtain⟨z,hz⟩:∃ z,gW x.Arg (-2147483648) 2147483647=z:=⟨_,rfl⟩
   have HO:Hid (jX x=z):=fE (by rw[wI h (lo:=-2147483648) (hi:=2147483647) (by rfl) (by rfl),hb,hz];rfl);exact rG
  ·obtain⟨z,hz⟩:∃ z,gW x.Arg (-32768) 32767=z:=⟨_,rfl⟩
   have HO:Hid (jX x=z):=fE (by rw[wI h (lo:=-32768) (hi:=32767) (by rfl) (by rfl),hb,hz];rfl);exact rG
  ·obtain⟨z,hz⟩:∃ z,gW x.Arg 0 65535=z:=⟨_,rfl⟩
   have HO:Hid (jX x=z):=fE (by rw[uc h (hi:=65535) (by rfl),hb,hz];rfl);have HA:=fE hz;have HW:=fE h;have HB:=fE hb;have HZ:=fE (uz h hb);clear hb h hz;have e0:Ll I 16=16:=iw;have e1:NQ 16=16:=Nt _ ⟨by omega,by omega⟩;have e2:Ll I 65536=65536:=iw;have e3:NQ 65536=65536:=Nt _ ⟨by omega,by omega⟩;have e4:Ll I 65535=65535:=iw;have e5:NQ 65535=65535:=Nt _ ⟨by omega,by omega⟩;exact pD
  ·obtain⟨z,hz⟩:∃ z,gW x.Arg 0 255=z:=⟨_,rfl⟩
   have HO:Hid (jX x=z):=fE (by rw[uc h (hi:=255) (by rfl),hb,hz];rfl);have HA:=fE hz;have HW:=fE h;have HB:=fE hb;have HZ:=fE (uz h hb);clear hb h hz;have e0:Ll I 8=8:=iw;have e1:NQ 8=8:=Nt _ ⟨by omega,by omega⟩;have e2:Ll I 256=256:=iw;have e3:NQ 256=256:=Nt _ ⟨by omega,by omega⟩;have e4:Ll I 255=255:=iw;have e5:NQ 255=255:=Nt _ ⟨by omega,by omega⟩;exact pD
  ·obtain⟨z,hz⟩:∃ z,gW x.Arg 0 0=z:=⟨_,rfl⟩
   have HO:Hid (jX x=z):=fE (by rw[uc h (hi:=0) (by rfl),hb,hz];rfl);have HA:=fE hz;have HW:=fE h;have HB:=fE hb;have HZ:=fE (uz h hb);clear hb h hz;have e0:Ll I 0=0:=iw;have e1:NQ 0=0:=Nt _ ⟨by omega,by omega⟩;have e2:Ll I 1=1:=iw;have e3:NQ 1=1:=Nt _ ⟨by omega,by omega⟩;exact pD
theorem CV {x:mV} (h:jX x=M):0<=x.Code/\x.Code<=17:=by
 unfold jX at h;rw[LC] at h;exact zX.1 h.1
theorem Fv {a:Int} {n:Nat} (h:k<n):nK a (n-k) k=nR (a / 2 ^ (8*k))::nK a (n-(k+1)) (k+1):=by
 rw[show n-k=n-(k+1)+1 from by omega];rfl
theorem CL {w:N} (n:Int):qw.R w B [F .u8 (n % 256)] (nR n):=by
 have h:=IG (w:=w) (B:=B) (n % 256).toNat (by omega);rw[Int.toNat_of_nonneg (by omega)] at h;exact h
theorem E7 {w:N} {n:Int} (h0:0<=n)(h1:n<20):qw.R w B [F .u8 n] (nR n):=by
 have h:=CL (w:=w) (B:=B) n;rw[show n % 256=n from by omega] at h;exact h
theorem vw {g:Prop} (f:g:=by
  go_loopw [5,6] (fun a b wr=>∃(k:Nat) (acc:Q UInt8) (A:K Mh) (c:Nat),a=J A acc.length c/\b=F I k/\k<=n/\acc.length=k+1/\Hid (acc++nK x.Arg (n-k) k=nR x.Code::nK x.Arg n 0)/\Hid (fF (w.alloc (C #[F I x.Code,F I x.Arg] 129)) wr)/\Hid (gM (qw.sl 5) (w.alloc (C #[F I x.Code,F I x.Arg] 129)) wr [J A acc.length c] acc)) (fun _ b _=>n-(Ml b).toNat)
  case atStart=>exact⟨0,[nR x.Code],_,1,rfl,rfl,Lv _,rfl,fE (by simp),fE gF,fE (FR Bn (W1:=w) (B:=0) (ec:=[F .u8 (x.Code)]) (E7 hc.1 (by omega)) gF (by simp))⟩
  case round=>
   obtain⟨k,acc,A,c,rfl,rfl,hk,hac,HT,hG,hF⟩:=hrel
   obtain⟨os,d,rfl⟩:=hG.out
   clear hG
   by_cases hlt:k<n
   ·have hki:(k:Int)<(n:Int):=by omega
    have hw8:Ll I (8*(k:Int))=8*(k:Int):=iw
    have HN:=fE (Fv (a:=x.Arg) hlt)
    go_wp2_with(at_builtin;(refine ER (L:=acc.length+1) rfl (.tmp 25) (.tmp 32) IN Bn (W0:=w.alloc (C #[F I x.Code,F I x.Arg] 129)) (hF.out.fO gG).qC gG (W1:=w) (B:=0) (ec:=[F .u8 (x.Arg / 2 ^ (8*k) % 256)]) (y:=nR (x.Arg / 2 ^ (8*k))) (CL _) rfl rfl rfl (by intro j u hu;simpa[go_sem] using hu) rfl (by omega) (by omega) ?_);intro A2 c2 os2 d2 hF2)
    go_roundw
    exact⟨k+1,acc++[nR (x.Arg / 2 ^ (8*k))],A2,c2,by simp;omega,by go_num,by omega,by simp;omega,fE (by rw[<-HT.out,HN.out];simp),fE gG,fE (by simpa using hF2)⟩
    exact gL
   ·obtain rfl:k=n:=by omega
    have hki:¬ ((k:Int)<(k:Int)):=by omega
    have HE:Hid (acc=nR x.Code::nK x.Arg k 0):=fE (by have h:=HT.out;rw[Mq] at h;simpa[nK] using h)
    have kc:=E4 hF.out.read
    rw[hac] at kc
    go_wp2_with(fail)
    go_ret
    exact⟨ua (by rw[HS.out,HE.out]),gG⟩):g:=f
theorem zr8 (x:mV)(w:N):LR prog 99 #[.agg #[F I x.Code,F I x.Arg]] w fun e w'=>e=.returned (G (jE x))/\fF w w':=by
 cases hb:jX x
 ·have HS:=fE (show jE x=⟨#[]⟩ from by unfold jE;rw[hb];rfl)
  have HB:=fE hb;clear hb;go_enter func99,ntmps99;go_wp2_with(go_at_call 182;(with_reducible refine(zro x _).mono ?_);rw[HB.out];rintro e w1 ⟨rfl,a0,d1,rfl⟩);go_ret;exact⟨ua HS.out.symm,gG⟩
 ·obtain⟨n,sg,hW⟩:∃ n sg,jw x.Code=(n,sg):=⟨_,_,rfl⟩
  have hn:n<=4:=by have:=tH x.Code;rw[hW] at this;exact this
  have hc:=CV hb;have HS:=fE (show jE x=⟨(nR x.Code::nK x.Arg n 0).toArray⟩ from by unfold jE;rw[hb,hW];rfl);have HB:=fE hb;have HW:=fE hW;clear hb hW;go_enter func99,ntmps99;go_wp2_with(first | (go_at_call 182;(with_reducible refine(zro x _).mono ?_);rw[HB.out];rintro e w1 ⟨rfl,a0,d1,rfl⟩) | (go_at_call 181;(with_reducible refine(zeP _ _).mono ?_);rw[HW.out];rintro e w2 ⟨rfl,rfl⟩));exact vw
theorem zr7 (x:mV)(w:N):LR prog 113 #[.agg #[F I x.Code,F I x.Arg]] w fun e w'=>e=.returned (G (jE x))/\fF w w':=by
 cases hb:jX x
 ·have HS:=fE (show jE x=⟨#[]⟩ from by unfold jE;rw[hb];rfl)
  have HB:=fE hb;clear hb;go_enter func113,ntmps113;go_wp2_with(go_at_call 196;(with_reducible refine(zrn x _).mono ?_);rw[HB.out];rintro e w1 ⟨rfl,a0,d1,rfl⟩);go_ret;exact⟨ua HS.out.symm,gG⟩
 ·obtain⟨n,sg,hW⟩:∃ n sg,jw x.Code=(n,sg):=⟨_,_,rfl⟩
  have hn:n<=4:=by have:=tH x.Code;rw[hW] at this;exact this
  have hc:=CV hb;have HS:=fE (show jE x=⟨(nR x.Code::nK x.Arg n 0).toArray⟩ from by unfold jE;rw[hb,hW];rfl);have HB:=fE hb;have HW:=fE hW;clear hb hW;go_enter func113,ntmps113;go_wp2_with(first | (go_at_call 196;(with_reducible refine(zrn x _).mono ?_);rw[HB.out];rintro e w1 ⟨rfl,a0,d1,rfl⟩) | (go_at_call 197;(with_reducible refine(zcx _ _).mono ?_);rw[HW.out];rintro e w2 ⟨rfl,rfl⟩));exact vw
end Go.Proofs.YtiihkapmggfjkaaGreat
