/-
  PART.
-/
import Derived.Test.YthgbglbaemelhaaGreatM5LawThreadsApart
set_option linter.unusedVariables false
set_option linter.unusedSimpArgs false
set_option maxRecDepth 100000
set_option maxHeartbeats 8000000
namespace Go.Proofs.YthgbglbaemelhaaGreat
open Value renaming slice->G,int->J,bool->H
open IntKind renaming i64->Z
open Option renaming none->C,some->D,getD_some->Te
open Obj renaming cells->F
open Bool renaming false->I,true->M
open Go renaming World->U,Addr->RJ,TypeId->R5,yielded->Th
open World renaming cell?->Rb,frozen?->Rx
open _root_.Int renaming toNat_natCast->Ry
open List renaming length_cons->RA,replicate->RN,length_nil->RR,getElem?_cons_zero->RW,nil_append->RY,foldl_cons->TY
open Region renaming wanted->RV,ready->Sn,noSelect->TZ,free->Wu
open Tryz
open Go.RowKit
variable {S:Q Nat}{Q5 W W':U}{a b m:fT}{arg code k line v:Int}{io fs:Q Int}{d f g i j n n0:Nat}{e:R5}{l:Q fM}{o0 o1 o2 o3 o4 o5 o6:Value}{p:Q fw}{s:fH}{t:gB}{x:fw}
def jS (d:Nat):Int:=900-30*(d:Int)
def iQ (d:Nat):Nat:=250*d
structure oL (p:Q fw)(n j:Nat)(x:fM):Prop where
 code:0<=x.Op.Code/\x.Op.Code<=17
 lit:x.Op.Code=0->0<=x.Op.Wv/\x.Op.Wv<=999
 var:1<=x.Op.Code->x.Op.Code<=4->-2000<=x.Op.Wv/\x.Op.Wv<=2000
 op:(5<=x.Op.Code/\x.Op.Code<=9)∨x.Op.Code=17->x.Op.Wv=0
 jump:x.Op.Code=10∨x.Op.Code=11->0<=x.Op.Wv/\x.Op.Wv<=n
 WQ:12<=x.Op.Code->x.Op.Code<=15->0<=x.Op.Wv/\x.Op.Wv<=100
 ret:x.Op.Code=16->0<=x.Op.Wv/\x.Op.Wv<=2000
 line:0<=x.fG/\x.fG<p.length
 io:x.fB.length<=3/\∀ c∈x.fB,0<=c/\c<p.length
 jp:0<=x.fF/\x.fF<=1000/\(x.fD=M->x.fF=0)
 first:j=0↔x.Op.Code=13∨(x.Op.Code=15/\kP p x.fG=0)
def iB (p:Q fw)(l:Q fM):Prop:=∀(j:Nat)(x:fM),l[j]?=D x->oL p l.length j x
theorem oL.up {m:Nat} {x:fM} (h:oL p n j x)(hn:n<=m):oL p m j x:=
 ⟨h.code,h.lit,h.var,h.op,fun hc=>by have:=h.jump hc;omega,h.WQ,h.ret,h.line,h.io,h.jp,h.first⟩
theorem iB.snoc {x:fM} (h:iB p l)(hx:oL p (l.length+1) l.length x):iB p (l++[x]):=by
 intro j y hy;rw[Rh];by_cases hj:j<l.length
 ·rw[SK hj] at hy
  exact(h j y hy).up II
 ·have a0:=(Rd.1 hy).1
  simp only[Rh,RA,RR] at a0;have:j=l.length:=K9;subst this;rw[Sd (Ru _),St] at hy;simp only[RW,RT] at hy;subst hy;exact hx
theorem xn (l:Q fM)(j:Nat)(v:Int):(mD l j v).length=l.length:=by
 unfold mD;cases l[j]? with
 | none=>rfl
 | some x=>simp
theorem Ms {y:fM} (h:(mD l j v)[i]?=D y):(i≠j/\l[i]?=D y)∨(i=j/\∃ x,l[j]?=D x/\y = { x with Op:=⟨x.Op.Code,v⟩ }):=by
 unfold mD at h;cases hx:l[j]? with
 | none=>
  rw[hx] at h;refine .inl ⟨fun hh=>?_,h⟩;subst hh;simp only at h;rw[hx] at h;cases h
 | some x=>
  rw[hx] at h;simp only at h;rw[U2] at h;by_cases hij:j=i
  ·subst hij
   have hl:=(Rd.1 hx).1;simp only[TI,hl,TI,RT] at h;exact .inr ⟨rfl,x,rfl,h.symm⟩
  ·rw[Ro hij] at h
   exact .inl ⟨fun hh=>hij hh.symm,h⟩
def gV (l:Q fM)(j:Int):Prop:=∃(i:Nat)(x:fM),j=(i:Int)/\l[i]?=D x/\(x.Op.Code=10∨x.Op.Code=11)
theorem GM {j:Int} (h:iB p l)(hj:gV l j)(h0:0<=v)(hv:v<=l.length):iB p (mD l j.toNat v):=by
 obtain⟨a,x,rfl,hx,hc⟩:=hj;rw[Ry];intro i y hy;rw[xn];rcases Ms hy with⟨_,h2⟩ | ⟨rfl,x',a0,rfl⟩
 ·exact h i y h2
 ·rw[hx] at a0
  injection a0 with a0
  subst a0;have hi:=h i x hx;exact⟨hi.code,fun h0=>by simp only at h0;omega,fun h1 h2=>by simp only at h1 h2;omega,fun h1=>by simp only at h1;omega,fun _=>⟨h0,hv⟩,fun h1 h2=>by simp only at h1 h2;omega,fun h1=>by simp only at h1;omega,hi.line,hi.io,hi.jp,hi.first⟩
theorem Cv {j:Int} (h:gV l j):gV (mD l i v) j:=by
 obtain⟨a,x,rfl,hx,hc⟩:=h;unfold mD;cases hy:l[i]? with
 | none=>exact⟨a,x,rfl,hx,hc⟩
 | some y=>
  simp only;by_cases hai:i=a
  ·subst hai
   rw[hx] at hy;injection hy with hy
   subst hy;exact⟨i,{ x with Op:=⟨x.Op.Code,v⟩ },rfl,by rw[TN (Rd.1 hx).1],hc⟩
  ·exact⟨a,x,rfl,by rw[UN hai];exact hx,hc⟩
theorem gV.WH {r:Q fM} {j:Int} (h:gV l j):gV (l++r) j:=by
 obtain⟨a,x,rfl,hx,hc⟩:=h;exact⟨a,x,rfl,by rw[SK (Rd.1 hx).1];exact hx,hc⟩
structure ij (l l':Q fM):Prop where
 len:l.length<=l'.length
 jump:∀ j,gV l j->gV l' j
theorem ij.refl (l:Q fM):ij l l:=⟨Ru _,fun _ h=>h⟩
theorem ij.trans {a b c:Q fM} (h:ij a b)(k:ij b c):ij a c:=⟨RG h.len k.len,fun j hj=>k.jump j (h.jump j hj)⟩
theorem ij.WH (l r:Q fM):ij l (l++r):=⟨II,fun _ h=>h.WH⟩
theorem ij.set (l:Q fM)(j:Nat)(v:Int):ij l (mD l j v):=⟨by rw[xn];exact Ru _,fun _ h=>Cv h⟩
theorem zb:∀(js:Q Int)(l:Q fM)(v:Int),ij l (WO l js v)/\(WO l js v).length=l.length
 | [],l,v=>⟨ij.refl _,rfl⟩
 | j::js,l,v=>by
  obtain⟨h1,h2⟩:=zb js (mD l j.toNat v) v;exact⟨(ij.set _ _ _).trans h1,by rw[<-xn l j.toNat v];exact h2⟩
theorem FQ {p:Q fw}:∀(js:Q Int)(l:Q fM)(v:Int),iB p l->(∀ j∈js,gV l j)->0<=v->v<=l.length->iB p (WO l js v)
 | [],l,v,h,_,_,_=>h
 | j::js,l,v,h,hj,h0,hv=>by
  exact FQ js (mD l j.toNat v) v (GM h (hj j (.head _)) h0 hv) (fun a ha=>Cv (hj a (.tail _ ha))) h0 (by rw[xn];exact hv)
theorem tO:∀(es:Q (Int × Int))(l:Q fM)(tgt v:Int),ij l (nY l es tgt v)/\(nY l es tgt v).length=l.length
 | [],l,tgt,v=>⟨ij.refl _,rfl⟩
 | e::es,l,tgt,v=>by
  unfold nY;simp only[TY];by_cases he:e.1=tgt
  ·rw[Rs he]
   obtain⟨h1,h2⟩:=tO es (mD l e.2.toNat v) tgt v;exact⟨(ij.set _ _ _).trans h1,by rw[<-xn l e.2.toNat v];exact h2⟩
  ·rw[Ro he]
   exact tO es l tgt v
theorem C4 {p:Q fw}:∀(es:Q (Int × Int))(l:Q fM)(tgt v:Int),iB p l->(∀ e∈es,gV l e.2)->0<=v->v<=l.length->iB p (nY l es tgt v)
 | [],l,tgt,v,h,_,_,_=>h
 | e::es,l,tgt,v,h,hj,h0,hv=>by
  unfold nY;simp only[TY];by_cases he:e.1=tgt
  ·rw[Rs he]
   exact C4 es (mD l e.2.toNat v) tgt v (GM h (hj e (.head _)) h0 hv) (fun a ha=>Cv (hj a (.tail _ ha))) h0 (by rw[xn];exact hv)
  ·rw[Ro he]
   exact C4 es l tgt v h (fun a ha=>hj a (.tail _ ha)) h0 hv
structure gR (E:fX):Prop where
 pc:j9 E.p
 inl:0<=E.inl/\E.inl<=3
 ww:0<=E.ww/\E.ww<=100
 args:0<=E.args/\E.args<=4
structure iv (E:fX)(s:fH):Prop where
 rh:∃(i e:Nat) (x:fw),s.f=(i:Int)/\E.p[i]?=D x/\x.li=0/\gz E.p i e/\(∀(j:Nat) (y:fw),i<j->j<e->E.p[j]?=D y->y.li≠0/\kG E.p (zv E.p i) y.Expr=M/\(y.li=4->∃ a,i<=a/\a<j/\ja E.p a j)/\(y.li=1->jG (zv E.p i) y.pu=M))
 un:s.un=zv E.p s.f/\s.un.length<=8
 first:0<=s.first/\s.first<=8*(s.io.length:Int)
 io:s.io.length<=3/\∀ c∈s.io,0<=c/\c<E.p.length
 UV:s.UV=M->s.io = []/\s.first=0/\E.args<=s.un.length
theorem Oj {E:fX} (hE:iB E.p m.pi)(hd:0<=m.jp/\m.jp<=1000)(h:∀(x:fM),x.Op=⟨code,arg⟩->x.fG=line->x.fB=io->(0<=x.fF/\x.fF<=1000/\(x.fD=M->x.fF=0))->oL E.p (m.pi.length+1) m.pi.length x):iB E.p (zI E m code arg line io).pi:=by
 refine hE.snoc (h _ rfl rfl rfl ?_);unfold ud;simp only;cases hb:(E.gY && decide (0<m.pi.length)) with
 | true=>exact⟨Tz _,II,fun _=>rfl⟩
 | false=>exact⟨hd.1,hd.2,fun h=>by cases h⟩
theorem xh (E:fX)(m:fT)(code arg line:Int)(io:Q Int):(zI E m code arg line io).pi.length=m.pi.length+1:=by simp[zI]
theorem P5 {x:fM} (hop:x.Op=⟨code,arg⟩)(hl:x.fG=line)(hc:x.fB=io)(hd:0<=x.fF/\x.fF<=1000/\(x.fD=M->x.fF=0))(hj:0<j)
  (hline:0<=line/\line<p.length) (hchain:io.length<=3/\∀ c∈io,0<=c/\c<p.length)
  (h:(code=0/\0<=arg/\arg<=999)∨(1<=code/\code<=4/\-2000<=arg/\arg<=2000)∨(((5<=code/\code<=9)∨code=17)/\arg=0)∨((code=10∨code=11)/\0<=arg/\arg<=n)∨((code=12∨code=14∨(code=15/\kP p line≠0))/\0<=arg/\arg<=100)∨(code=16/\0<=arg/\arg<=2000)):oL p n j x:=by
 have h1:x.Op.Code=code:=by rw[hop]
 have h2:x.Op.Wv=arg:=by rw[hop]
 refine⟨by rw[h1];omega,fun h0=>by rw[h1] at h0;rw[h2];omega,fun a b=>by rw[h1] at a b;rw[h2];omega,fun a=>by rw[h1] at a;rw[h2];omega,fun a=>by rw[h1] at a;rw[h2];omega,fun a b=>by rw[h1] at a b;rw[h2];omega,fun a=>by rw[h1] at a;rw[h2];omega,by rw[hl];exact hline,by rw[hc];exact hchain,hd,?_⟩;rw[h1,hl];constructor
 ·intro h0;omega
 ·rintro(h0 | ⟨h0,h3⟩)
  ·exfalso;omega
  ·exfalso
   rcases h with h | h | h | h | h | h
   ·omega
   ·omega
   ·omega
   ·omega
   ·obtain⟨h4 | h4 | ⟨_,h4⟩,_⟩:=h
    ·omega
    ·omega
    ·exact h4 h3
   ·omega
theorem yD:∀(l:Q N)(s:N)(i:Nat),jG l s=M->(i:Int)<=qV l s i/\qV l s i<i+l.length
 | [],s,i,h=>by simp[jG] at h
 | y::r,s,i,h=>by
  unfold qV;by_cases hy:y=s
  ·rw[Rs hy]
   simp only[RA];omega
  ·rw[Ro hy]
   have h2:jG r s=M:=by
    unfold jG at h |-;rw[List.any_cons] at h;simpa[hy] using h
   have:=yD r s (i+1) h2;simp only[RA];omega
theorem GG {E:fX} {d:Int} {i:Int} {st:Bool} (hE:gR E)(hs:iv E s)(hd:0<=d/\d<=1000)(hi:0<=i/\i<8):1<=(pa E d s i st).1/\(pa E d s i st).1<=4/\-2000<=(pa E d s i st).2/\(pa E d s i st).2<=2000:=by
 have h1:=hE.args;have h2:=hs.first;have h3:=hs.io.1;unfold pa;simp only;refine⟨?_,?_,?_,?_⟩
 ·split <;> split <;> omega
 ·split <;> split <;> omega
 ·split <;> split <;> (try split) <;> omega
 ·split <;> split <;> (try split) <;> omega
structure iC (E:fX)(m:fT):Prop where
 ia:iB E.p m.pi
 pos:0<m.pi.length
structure fZ (E:fX)(m m':fT)(dd:Int)(n0 w:Nat):Prop where
 ok:iC E m'
 keeps:ij m.pi m'.pi
 jp:m'.jp=m.jp+dd
 cnt:m'.pi.length<=max m.pi.length n0+w
 gO:m.gO<=m'.gO/\m'.gO<=max m.gO 40
theorem fZ.refl {E:fX}{m:fT}{n0:Nat}(h:iC E m):fZ E m m 0 n0 0:=⟨h,ij.refl _,K9,K9,K9⟩
theorem fZ.trans {E:fX}{a b c:fT}{d1 d2:Int}{n0 w1 w2:Nat}(h:fZ E a b d1 n0 w1)(k:fZ E b c d2 n0 w2):fZ E a c (d1+d2) n0 (w1+w2):=
 ⟨k.ok,h.keeps.trans k.keeps,by rw[k.jp,h.jp];omega,by have:=h.cnt;have:=k.cnt;omega,by have:=h.gO;have:=k.gO;omega⟩
theorem fZ.more {E:fX} {d:Int} {n1 w1 w2:Nat} (h:fZ E a b d n0 w1)(hw:w1<=w2)(hn:n0<=n1):fZ E a b d n1 w2:=⟨h.ok,h.keeps,h.jp,by have:=h.cnt;omega,h.gO⟩
theorem fZ.WN {E:fX} {d d':Int} {w:Nat} (h:fZ E a b d n0 w)(hd:d=d'):fZ E a b d' n0 w:=by subst hd;exact h
theorem pD {E:fX} {dd:Int} (hm:iC E m)(hd:0<=m.jp/\m.jp<=1000)(hline:0<=line/\line<E.p.length)(hchain:io.length<=3/\∀ c∈io,0<=c/\c<E.p.length)
  (h:(code=0/\0<=arg/\arg<=999)∨(1<=code/\code<=4/\-2000<=arg/\arg<=2000)∨(((5<=code/\code<=9)∨code=17)/\arg=0)∨((code=10∨code=11)/\0<=arg/\arg<=m.pi.length+1)∨((code=12∨code=14∨(code=15/\kP E.p line≠0))/\0<=arg/\arg<=100)∨(code=16/\0<=arg/\arg<=2000)) :
  fZ E m ((zI E m code arg line io).gw (m.jp+dd)) dd n0 1:=by
 refine⟨⟨?_,by simp[zI,fT.gw]⟩,ij.WH _ _,rfl,by have:=xh E m code arg line io;simp only[fT.gw,this];omega,by simp only[zI,fT.gw];omega⟩;exact Oj hm.ia hd (fun x h1 h2 h3 h4=>P5 h1 h2 h3 h4 hm.pos hline hchain h)
theorem AH (E:fX)(m:fT)(code arg line:Int)(io:Q Int)(h:code=10∨code=11):gV (zI E m code arg line io).pi (m.pi.length:Int):=
 ⟨m.pi.length,_,rfl,by unfold zI;simp only;rw[Sd (Ru _),St];rfl,h⟩
def tJ (E:fX)(rep:Int->fT->fT)(fs:Q Int)(d:Nat):Prop:=∀(g:Int)(m:fT),iC E m->m.pi.length<200->(∃ i:Nat,g=(i:Int)/\∃ x,E.p[i]?=D x/\x.li=0)->mZ E fs m g=M->
 ((iK E.p g).length:Int)<=m.jp->m.jp<=jS d->fZ E m (rep g m) (1-((iK E.p g).length:Int)) (200+iQ d) 0
theorem KO (p:Q fw)(h:(zq p).length<=6)(g:Int):0<=tg p g/\tg p g<=6:=by
 unfold tg;have:=TU (fun k=>decide (k<g)) (zq p);omega
theorem GA (h:lx t=M):0<=t.li/\t.li<=7:=by
 unfold lx at h;split at h
 ·omega
 ·split at h
  ·omega
  ·split at h
   ·omega
   ·rw[Rq,zu] at h
    omega
theorem OF (h:lx t=M)(h0:t.li=0):0<=t.gZ/\t.gZ<=999:=by
 unfold lx at h;rw[Rs h0,Rq,zu] at h;exact h.1
theorem Gz (h:lx t=M)(h0:t.li=7):0<=t.gZ/\t.gZ<=4:=by
 unfold lx at h;rw[Ro K9,Ro K9,Rs h0,Rq,zu] at h;exact h.1
theorem BV {un:Q N} (h:lr p un t=M)(h7:t.li=7):∃(i:Nat)(x:fw),kz p t.pu=(i:Int)/\p[i]?=D x/\x.li=0/\(x.fL.length:Int)=t.gZ:=by
 unfold lr at h;rw[Ro K9,Rs h7] at h;rcases KH p t.pu with h1 | ⟨i,x,h1,h2,h3,_⟩
 ·rw[h1] at h;simp at h
 ·rw[h1,Ro K9,Ry,h2] at h
  simp only[RC] at h;exact⟨i,x,h1,h2,h3,h⟩
theorem wh (h:p[i]?=D x):iK p (i:Int)=x.fL:=by
 unfold iK;rw[Ry,h]
theorem Ap (h:lx t=M)(h7:t.li=7):jo t=t.gZ:=by unfold jo;rw[Rs h,Rs h7]
theorem Fh (h:lx t=M)(h0:t.li=0∨t.li=1):jo t=0:=by unfold jo;rw[Rs h,Ro K9,Rs h0]
theorem G0 (h:lx t=M)(h0:t.li≠0)(h1:t.li≠1)(h7:t.li≠7):jo t=2:=by unfold jo;rw[Rs h,Ro h7,Ro K9]
theorem wb {E:fX} {g:Int} (h:mZ E fs m g=M):(fs.length:Int)-1<E.inl/\iP E.p g-g<=9/\m.pi.length<200/\fs.any (fun f=>decide (f=g))=I:=by
 unfold mZ at h;simp only[Rq,RC,Uq] at h;exact⟨h.1,h.2.1,K9,h.2.2.2⟩
theorem O3 {E:fX} {rep:Int->fT->fT} (hE:gR E)(hs:iv E s)(hr:tJ E rep fs d)(hm:iC E m)(ht:lx t=M)(hn:lr E.p s.un t=M)(hk:0<=k/\k<E.p.length)
  (h0:jo t<=m.jp) (h1:m.jp<=jS d):fZ E m (oJ E rep fs s k t m) (1-jo t) (200+iQ d) 1:=by
 have ha:=Bd ht;have a1:jS d<=900:=by unfold jS;omega
 unfold oJ;by_cases k0:t.li=0
 ·rw[Rs k0,Fh ht (.inl k0)]
  exact pD hm ⟨K9,K9⟩ hk hs.io (.inl ⟨rfl,OF ht k0⟩)
 ·rw[Ro k0]
  by_cases k1:t.li=1
  ·rw[Rs k1,Fh ht (.inr k1)]
   have a2:jG s.un t.pu=M:=by
    unfold lr at hn;rwa [Rs k1] at hn
   have hx:=yD s.un t.pu 0 a2;have hl:=hs.un.2;have hp:=GG (st:=I) (i:=qV s.un t.pu 0) hE hs (d:=m.jp) ⟨K9,K9⟩ ⟨K9,K9⟩;exact pD hm ⟨K9,K9⟩ hk hs.io (.inr (.inl hp))
  ·rw[Ro k1]
   by_cases k7:t.li=7
   ·rw[Rs k7,Ap ht k7]
    rw[Ap ht k7] at h0;obtain⟨i,x,g1,g2,g3,g4⟩:=BV hn k7;have hc:=Gz ht k7;cases hrep:mZ E fs m (kz E.p t.pu) with
    | true=>
     rw[Rs rfl];have a0:((iK E.p (kz E.p t.pu)).length:Int)=t.gZ:=by rw[g1,wh g2];exact g4
     have:=hr (kz E.p t.pu) m hm (wb hrep).2.2.1 ⟨i,g1,x,g2,g3⟩ hrep K9 h1;rw[a0] at this;exact this.more K9 (Ru _)
    | false=>
     rw[Ro II];have a3:=KO E.p hE.pc.my (kz E.p t.pu);have:=pD (dd:=1-t.gZ) (n0:=200+iQ d) hm (code:=12) (arg:=tg E.p (kz E.p t.pu)) (line:=k) (io:=s.io) ⟨K9,K9⟩ hk hs.io (.inr (.inr (.inr (.inr (.inl ⟨.inl rfl,K9,K9⟩)))));rw[show m.jp-t.gZ+1=m.jp+(1-t.gZ) from K9];exact this
   ·rw[Ro k7,G0 ht k0 k1 k7]
    rw[G0 ht k0 k1 k7] at h0;have a4:=GA ht;exact pD (dd:=-1) hm ⟨K9,K9⟩ hk hs.io (.inr (.inr (.inl ⟨.inl ⟨K9,K9⟩,rfl⟩)))
mutual
theorem Ex.iJ {E:fX}{rep:Int->fT->fT}{fs:Q Int}{s:fH}{k:Int}{d:Nat}(hE:gR E)(hs:iv E s)(hr:tJ E rep fs d)(hk:0<=k/\k<E.p.length):∀(e:Ex)(m:fT),e.wf->kG E.p s.un e.flat=M->iC E m->0<=m.jp->m.jp+e.size<=jS d+1->fZ E m (e.comp E rep fs s k m) 1 (200+iQ d) e.size
 | .node t ks,m,hw,hn,hm,h0,h1=>by
  simp only[Ex.size] at h1;simp only[Ex.flat,kG,List.all_cons,Rq] at hn;have a0:=ks.kr;have g1:=gu.iJ hE hs hr hk ks m hw.2.2 hn.2 hm h0 K9;have g2:=O3 hE hs hr g1.ok hw.1 hn.1 hk (by rw[g1.jp,hw.2.1];omega) (by rw[g1.jp];omega);exact((g1.trans g2).WN (by rw[hw.2.1];omega)).more (by simp only[Ex.size];omega) (Ru _)
theorem gu.iJ {E:fX}{rep:Int->fT->fT}{fs:Q Int}{s:fH}{k:Int}{d:Nat}(hE:gR E)(hs:iv E s)(hr:tJ E rep fs d)(hk:0<=k/\k<E.p.length):∀(ks:gu)(m:fT),ks.wf->kG E.p s.un ks.flat=M->iC E m->0<=m.jp->m.jp+ks.size<=jS d+1->fZ E m (ks.comp E rep fs s k m) ks.len (200+iQ d) ks.size
 | .nil,m,_,_,hm,_,_=>fZ.refl hm
 | .cons e r,m,hw,hn,hm,h0,h1=>by
  simp only[gu.size] at h1;simp only[gu.flat,kG,Um,Rq] at hn;have he:=e.size_pos;have g1:=Ex.iJ hE hs hr hk e m hw.1 hn.1 hm h0 K9;have g2:=gu.iJ hE hs hr hk r _ hw.2 hn.2 g1.ok (by rw[g1.jp];omega) (by rw[g1.jp];omega);exact((g1.trans g2).WN (by simp only[gu.len];omega)).more (by simp only[gu.size];omega) (Ru _)
end
theorem yo {E:fX} {i:Int} (hE:gR E)(hs:iv E s)(hm:iC E m)(hd:0<=m.jp/\m.jp<=1000)(hi:0<=i/\i<8)(hline:0<=line/\line<E.p.length)(hchain:io.length<=3/\∀ c∈io,0<=c/\c<E.p.length) :
  fZ E m (ni E m s i line io) (-1) n0 1:=pD (dd:=-1) hm hd hline hchain (.inr (.inl (GG hE hs hd hi)))
theorem Cs {E:fX} (hm:iC E m)(hd:0<=m.jp/\m.jp<=1000)(hv:0<=v/\v<=999)(hline:0<=line/\line<E.p.length)(hchain:io.length<=3/\∀ c∈io,0<=c/\c<E.p.length) :
  fZ E m (mg E m v line io) 1 n0 1:=pD hm hd hline hchain (.inl ⟨rfl,hv⟩)
theorem Ey {E:fX}{x:fH}{k:Int}{io:Q Int}{n0:Nat}(hE:gR E)(hs:iv E x)(hline:0<=k/\k<E.p.length)(hchain:io.length<=3/\∀ c∈io,0<=c/\c<E.p.length):∀(n:Nat)(m:fT),iC E m->(n:Int)<=m.jp->m.jp<=1000->n<=8->fZ E m (rA E x k io n m) (-(n:Int)) n0 n
 | 0,m,hm,_,_,_=>fZ.refl hm
 | n+1,m,hm,h0,h1,h8=>by
  have g1:fZ E m (ni E m x n k io) (-1) n0 1:=yo hE hs hm ⟨K9,h1⟩ ⟨K9,K9⟩ hline hchain;have g2:=Ey hE hs hline hchain (n0:=n0) n _ g1.ok (by rw[g1.jp];omega) (by rw[g1.jp];omega) K9;exact((g1.trans g2).WN K9).more K9 (Ru _)
theorem FB {E:fX}{x:fH}{k:Int}{io:Q Int}{n0:Nat}(hE:gR E)(hs:iv E x)(hline:0<=k/\k<E.p.length)(hchain:io.length<=3/\∀ c∈io,0<=c/\c<E.p.length):∀(n i:Nat)(m:fT),iC E m->0<=m.jp->m.jp<=999->i+n<=8->fZ E m (tE E x k io n i m) 0 n0 (2*n)
 | 0,i,m,hm,_,_,_=>fZ.refl hm
 | n+1,i,m,hm,h0,h1,h8=>by
  have g0:fZ E m (mg E m 0 k io) 1 n0 1:=Cs hm ⟨h0,K9⟩ ⟨K9,K9⟩ hline hchain;have g1:fZ E (mg E m 0 k io) (ni E (mg E m 0 k io) x i k io) (-1) n0 1:=yo hE hs g0.ok ⟨by rw[g0.jp];omega,by rw[g0.jp];omega⟩ ⟨K9,K9⟩ hline hchain;have g2:=FB hE hs hline hchain (n0:=n0) n (i+1) _ g1.ok (by rw[g1.jp,g0.jp];omega) (by rw[g1.jp,g0.jp];omega) K9;exact(((g0.trans g1).trans g2).WN K9).more K9 (Ru _)
theorem Ld (out:Q N)(x:fw):out.length<=(rz out x).length:=by
 unfold rz;split
 ·simp
 ·exact Ru _
theorem Ev:∀(l:Q fw)(n:Nat)(out:Q N),out.length<=(oR l n out).length
 | _,0,out=>by cases ‹Q fw› <;> exact Ru _
 | [],_+1,out=>Ru _
 | x::r,n+1,out=>RG (Ld out x) (Ev r n _)
theorem Km {e:Nat} (he:gz p i e)(hx:p[i]?=D x)(h0:x.li=0):x.fL.length<=(zv p i).length:=by
 unfold zv;rw[he.iV,Ro K9];simp only[Ry,hx,h0,TI];exact Ev _ _ _
def WC (p:Q fw)(g:Int):Prop:=∃ i:Nat,g=(i:Int)/\∃ x,p[i]?=D x/\x.li=0
theorem WC.parts {E:fX} (hE:gR E){g:Int}(h:WC E.p g):((iK E.p g).length<=4/\(iK E.p g).length<=(zv E.p g).length/\(zv E.p g).length<=8):=by
 obtain⟨i,rfl,x,hx,h0⟩:=h;obtain⟨e,h1,h2,h3⟩:=hE.pc.body i x hx h0;rw[wh hx];exact⟨hE.pc.args i x hx,Km h1 hx h0,h2⟩
theorem Bx {E:fX} {g:Int} (hE:gR E)(hs:iv E s)(hg:WC E.p g)(hk:0<=k/\k<E.p.length)(hc:s.io.length<=2):iv E (kD E g k s):=by
 have hp:=hg.parts hE;obtain⟨i,rfl,x,hx,h0⟩:=hg;obtain⟨e,h1,h2,h3⟩:=hE.pc.body i x hx h0;have hf:=hs.first;have hl:=hs.un.2;refine⟨⟨i,e,x,rfl,hx,h0,h1,h3⟩,⟨rfl,h2⟩,?_,?_,fun h=>by cases h⟩
 ·unfold kD pt
  simp only[Rh,RA,RR];split
  ·rename_i ho
   obtain⟨h4,h5,h6⟩:=hs.UV ho;have:=hE.args;rw[h4];simp only[RR];omega
  ·omega
 ·unfold kD
  simp only[Rh,RA,RR,Rr,Rc];refine⟨K9,fun c hc'=>?_⟩;rcases hc' with h | rfl
  ·exact hs.io.2 c h
  ·exact hk
theorem FW {E:fX} {g:Int} (hE:gR E)(hs:iv E s)(hg:WC E.p g)(hk:0<=k/\k<E.p.length)(hk0:kP E.p k≠0)(hc:s.io.length<=2)(hm:iC E m)(h0:((iK E.p g).length:Int)<=m.jp)(h1:m.jp<=900) :
  fZ E m (qR E g k s m) (-((iK E.p g).length:Int)) n0 21:=by
 have hp:=hg.parts hE;have hx:=Bx hE hs hg hk hc;have hf:=hx.first
 have a1:0<=pt E s/\pt E s<=24:=by
  have h2:=hf;unfold kD at h2;simp only[Rh,RA,RR] at h2;omega
 have a3:(kD E g k s).un.length<=8:=hx.un.2;have a0:(kD E g k s).un=zv E.p g:=rfl;unfold qR;simp only;have g0:fZ E m (m.ke (max m.gO (pt E s+(kD E g k s).un.length))) 0 n0 0:=⟨⟨hm.ia,hm.pos⟩,ij.refl _,by simp[fT.ke],by simp only[fT.ke];omega,by simp only[fT.ke];omega⟩
 have g1:=Ey (n0:=n0) hE hx hk hs.io (iK E.p g).length _ g0.ok (by rw[g0.jp];omega) (by rw[g0.jp];omega) K9;have g2:=FB (n0:=n0) hE hx hk hs.io ((kD E g k s).un.length-(iK E.p g).length) (iK E.p g).length _ g1.ok (by rw[g1.jp,g0.jp];omega) (by rw[g1.jp,g0.jp];omega) (by rw[a0];omega);have g3:=(g0.trans g1).trans g2;have a2:=g3.jp;split
 ·have g4:=pD (dd:=0) (n0:=n0) g3.ok (code:=15) (arg:=0) (line:=k) (io:=s.io) ⟨K9,K9⟩ hk hs.io (.inr (.inr (.inr (.inr (.inl ⟨.inr (.inr ⟨rfl,hk0⟩),K9,K9⟩)))))
  rw[TF] at g4;exact((g3.trans g4).WN K9).more (by rw[a0];omega) (Ru _)
 ·exact(g3.WN K9).more (by rw[a0];omega) (Ru _)
structure lj (E:fX)(L:jk):Prop where
 mo:iC E L.m
 ut:∀ j∈L.ut,gV L.m.pi j
 fS:∀ e∈L.fS,gV L.m.pi e.2
 fN:∀ h∈L.fN,0<=h/\h<=L.m.pi.length
theorem lj.up {E:fX} {L:jk} (h:lj E L)(hm:iC E m)(hk:ij L.m.pi m.pi):lj E (L.wm m):=
 ⟨hm,fun j hj=>hk.jump j (h.ut j hj),fun e he=>hk.jump _ (h.fS e he),fun a ha=>by have:=h.fN a ha;have:=hk.len;simp only[jk.wm];omega⟩
theorem CF {E:fX} {es:Q (Int × Int)} {tgt:Int} (hm:iC E m)(he:∀ e∈es,gV m.pi e.2):fZ E m (lK m es tgt) 0 n0 0:=by
 obtain⟨h1,h2⟩:=tO es m.pi tgt m.pi.length;exact⟨⟨C4 es m.pi tgt _ hm.ia he K9 K9,by have:=hm.pos;simp only[lK,fT.iN,h2];exact this⟩,h1,by simp[lK,fT.iN],by simp only[lK,fT.iN,h2];omega,by simp only[lK,fT.iN];omega⟩
theorem zy (E:fX)(k:Nat)(io:Q Int)(fN:Q Int):∀(n i:Nat)(m:fT),(nH E k io fN n i m=m/\∀ j,i<=j->j<i+n->¬ (gz E.p j k/\kP E.p j=5))∨∃ j,i<=j/\j<i+n/\gz E.p j k/\kP E.p j=5/\nH E k io fN n i m=zI E m 10 (fN.getD j 0) k io
 | 0,i,m=>.inl ⟨rfl,fun j a b=>K9⟩
 | n+1,i,m=>by
  unfold nH;by_cases h:iP E.p i=k/\(E.p[i]?.map fw.li)=D 5
  ·rw[Rs h]
   have he:=Mb h.1;have a0:kP E.p i=5:=by unfold kP;rw[Ry,h.2];rfl
   rcases zy E k io fN n (i+1) (zI E m 10 (fN.getD i 0) k io) with⟨h1,_⟩ | ⟨j,a,b,c,_⟩
   ·exact .inr ⟨i,Ru _,K9,he,a0,h1⟩
   ·have:=he.same c;omega
  ·rw[Ro h]
   rcases zy E k io fN n (i+1) m with⟨h1,h2⟩ | ⟨j,a,b,c⟩
   ·refine .inl ⟨h1,fun j a b hc=>?_⟩
    by_cases hj:j=i
    ·subst hj
     refine h ⟨hc.1.iV,?_⟩;have h5:=hc.2;unfold kP at h5;rw[Ry] at h5;cases hx:E.p[j]?.map fw.li with
     | none=>rw[hx] at h5;simp at h5
     | some v=>rw[hx] at h5;simp only[Te] at h5;rw[h5]
    ·exact h2 j K9 K9 hc
   ·exact .inr ⟨j,K9,K9,c⟩
theorem yX (p:Q fw)(k item:Int):∀(n i:Nat),∀ e∈nR p k item n i,e.2=item
 | 0,_,e,h=>by cases h
 | n+1,i,e,h=>by
  unfold nR at h;split at h
  ·rcases RO.1 h with rfl | h
   ·rfl
   ·exact yX p k item n (i+1) e h
  ·exact yX p k item n (i+1) e h
theorem ED {E:fX} {last:Bool} {L:jk} (hE:gR E)(hs:iv E s)(hL:lj E L)(hd:0<=L.m.jp/\L.m.jp<=1000)(hk:0<=k/\k<E.p.length):lj E (kQ E s k last L)/\fZ E L.m (kQ E s k last L).m (-1) n0 1/\(kQ E s k last L).fS=L.fS/\(kQ E s k last L).fN=L.fN:=by
 have ha:=hE.args;have hw:=hE.ww;unfold kQ;split
 ·split
  ·have g:fZ E L.m ((zI E L.m 14 E.args k s.io).gw (L.m.jp + -1)) (-1) n0 1:=pD hL.mo hd hk hs.io (.inr (.inr (.inr (.inr (.inl ⟨.inr (.inl rfl),K9,K9⟩)))))
   exact⟨hL.up g.ok g.keeps,g,rfl,rfl⟩
  ·have g:fZ E L.m ((zI E L.m 16 (E.args+16*E.ww) k s.io).gw (L.m.jp + -1)) (-1) n0 1:=pD hL.mo hd hk hs.io (.inr (.inr (.inr (.inr (.inr ⟨rfl,K9,K9⟩)))))
   exact⟨hL.up g.ok g.keeps,g,rfl,rfl⟩
 ·split
  ·have g:fZ E L.m (L.m.gw (L.m.jp-1)) (-1) n0 1:=⟨⟨hL.mo.ia,hL.mo.pos⟩,ij.refl _,rfl,by simp only[fT.gw];omega,by simp only[fT.gw];omega⟩
   exact⟨hL.up g.ok g.keeps,g,rfl,rfl⟩
  ·have g:fZ E L.m ((zI E L.m 10 0 k s.io).gw (L.m.jp + -1)) (-1) n0 1:=pD hL.mo hd hk hs.io (.inr (.inr (.inr (.inl ⟨.inl rfl,K9,K9⟩))))
   have g2:=hL.up g.ok g.keeps;refine⟨⟨g2.mo,fun j hj=>?_,g2.fS,g2.fN⟩,g,rfl,rfl⟩;rcases Rr.1 hj with h | h
   ·exact g2.ut j h
   ·rw[Rc.1 h]
    exact AH E L.m 10 0 k s.io (.inl rfl)
theorem yj {k:Nat} (h:p[k]?=D x):kP p (k:Int)=x.li:=by
 unfold kP;rw[Ry,h];rfl
theorem NU {l:Q Int} (h:∀ a∈l,0<=a/\a<=(n:Int))(hv:0<=v/\v<=(n:Int)):∀ a∈l.set i v,0<=a/\a<=(n:Int):=fun a ha=>by
 rcases TW ha with h1 | rfl
 ·exact h a h1
 ·exact hv
theorem NT {l:Q Int} (j:Nat)(h:∀ a∈l,0<=a/\a<=(n:Int)):0<=l.getD j 0/\l.getD j 0<=(n:Int):=by
 rw[Sf];cases hx:l[j]? with
 | none=>simp
 | some a=>exact h a (Rt hx)
theorem CD (h:0<=k/\k<=7)(h0:k≠0)(h4:k≠4)(h7:k≠7):rB k=M:=by
 unfold rB;simp only[UQ,RC];omega
theorem F3 {E:fX} {rep:Int->fT->fT} {e k:Nat} {L:jk} (hE:gR E)(hs:iv E s)(hr:tJ E rep fs d)(hL:lj E L)(hf:s.f=(i:Int))(he:gz E.p i e)(h1:i<k)(h2:k<=e)(hx:E.p[k]?=D x)
  (hd:0<=L.m.jp/\L.m.jp<=jS (d+1)):lj E (lM E rep fs s e k x L)/\fZ E L.m (lM E rep fs s e k x L).m 0 (200+iQ d) 24:=by
 have ak:=(Rd.1 hx).1;have hk:0<=(k:Int)/\(k:Int)<E.p.length:=⟨K9,K9⟩
 have af:jS (d+1)=jS d-30:=by unfold jS;omega
 have ab:jS d<=900:=by unfold jS;omega
 have g0:fZ E L.m (lK L.m L.fS k) 0 (200+iQ d) 0:=CF hL.mo hL.fS;have a4:=hL.up g0.ok g0.keeps;have a1:(lK L.m L.fS k).pi.length=L.m.pi.length:=(tO _ _ _ _).2;have ac:(lK L.m L.fS k).jp=L.m.jp:=rfl;have ae:(lK L.m L.fS k).gO=L.m.gO:=rfl;unfold lM;simp only;generalize lK L.m L.fS (k:Int)=m0 at g0 a4 a1 ac ae |-;by_cases k4:x.li=4
 ·rw[Rs k4]
  have g1:=pD (dd:=0) (n0:=200+iQ d) g0.ok (code:=10) (arg:=0) (line:=k) (io:=s.io) ⟨by rw[g0.jp];omega,by rw[g0.jp];omega⟩ hk hs.io (.inr (.inr (.inr (.inl ⟨.inl rfl,K9,K9⟩))));rw[TF] at g1;have a2:=a4.up g1.ok g1.keeps
  have a6:∀ z∈L.fS++nR E.p k L.m.pi.length (k-s.f.toNat) s.f.toNat,gV (zI E m0 10 0 k s.io).pi z.2:=fun z hz=>by
   rcases Rr.1 hz with h | h
   ·exact a2.fS z h
   ·rw[yX _ _ _ _ _ z h,<-a1]
    exact AH E _ 10 0 k s.io (.inl rfl)
  have g2:=CF (tgt:=-(k:Int)) (n0:=200+iQ d) g1.ok a6;have a3:=a2.up g2.ok g2.keeps;exact⟨⟨a3.mo,a3.ut,fun z hz=>g2.keeps.jump _ (a6 z hz),a3.fN⟩,(((g0.trans g1).trans g2).WN K9).more K9 (Ru _)⟩
 ·rw[Ro k4]
  by_cases k7:x.li=7
  ·rw[Rs k7]
   by_cases aa:k=e
   ·rw[Rs aa]
    have g1:fZ E m0 (mg E m0 0 k s.io) 1 (200+iQ d) 1:=Cs g0.ok ⟨by rw[g0.jp];omega,by rw[g0.jp];omega⟩ ⟨K9,K9⟩ hk hs.io;have a2:=a4.up g1.ok g1.keeps;obtain⟨w1,w2,_,_⟩:=ED (last:=M) (n0:=200+iQ d) hE hs a2 ⟨by have:=g1.jp;simp only[jk.wm];omega,by have:=g1.jp;simp only[jk.wm];omega⟩ hk;exact⟨w1,(((g0.trans g1).trans w2).WN K9).more K9 (Ru _)⟩
   ·rw[Ro aa]
    rcases zy E k s.io L.fN (k-(s.f.toNat+1)) (s.f.toNat+1) m0 with⟨w,_⟩ | ⟨j,_,_,_,_,w⟩
    ·rw[w]
     exact⟨a4,g0.more K9 (Ru _)⟩
    ·rw[w]
     have hh:0<=L.fN.getD j 0/\L.fN.getD j 0<=(m0.pi.length:Int):=NT j a4.fN;have g1:=pD (dd:=0) (n0:=200+iQ d) g0.ok (code:=10) (arg:=L.fN.getD j 0) (line:=k) (io:=s.io) ⟨by rw[g0.jp];omega,by rw[g0.jp];omega⟩ hk hs.io (.inr (.inr (.inr (.inl ⟨.inl rfl,hh.1,K9⟩))));rw[TF] at g1;exact⟨a4.up g1.ok g1.keeps,((g0.trans g1).WN K9).more K9 (Ru _)⟩
  ·rw[Ro k7]
   have aa:k≠e:=fun hh=>by
    subst hh;obtain⟨y,hy,h7⟩:=he.last;rw[hx] at hy;injection hy with hy
    exact k7 (by rw[hy];exact h7)
   obtain⟨i',e',z,w1,w2,w3,w4,w5⟩:=hs.rh;have ah:i'=i:=by rw[hf] at w1;omega
   subst ah;have ag:=w4.WD he;subst ag;obtain⟨n1,n2,n3,n4⟩:=w5 k x h1 K9 hx;have a5:=zu.1 (hE.pc.kind k x hx);have a9:rB x.li=M:=CD a5 n1 k4 k7;obtain⟨ex,e1,e2,e3⟩:=hE.pc.expr k x hx a9;have ai:iC E m0.begun:=⟨g0.ok.ia,g0.ok.pos⟩
   have g1:fZ E m0.begun (tH E rep fs s k x.Expr m0.begun) 1 (200+iQ d) ex.size:=by
    rw[e2,AT e1];rw[e2] at n2;refine Ex.iJ hE hs hr hk ex _ e1 ?_ ai (by simp only[fT.begun];omega) ?_
    ·rw[hs.un.1,hf]
     exact n2
    ·have:=hd.2
     simp only[fT.begun];omega
   have a0:fZ E L.m (tH E rep fs s k x.Expr m0.begun) 1 (200+iQ d) 20:=
    ⟨g1.ok,g0.keeps.trans g1.keeps,by rw[g1.jp,<-ac];rfl,by have h8:=g1.cnt;rw[show m0.begun.pi.length=L.m.pi.length from a1] at h8;omega,by have h9:=g1.gO;rw[show m0.begun.gO=L.m.gO from ae] at h9;exact h9⟩
   generalize tH E rep fs s k x.Expr m0.begun=m1 at g1 a0;have a7:=hL.up a0.ok a0.keeps;have a2:lj E { m:=m1,ut:=L.ut,fN:=L.fN.set k L.m.pi.length,fS:=L.fS }:=⟨a7.mo,a7.ut,a7.fS,NU a7.fN ⟨K9,by have:=a0.keeps.len;simp only;omega⟩⟩
   have a8:0<=m1.jp/\m1.jp<=1000:=by rw[a0.jp];omega
   by_cases k1:x.li=1
   ·rw[Rs k1]
    have ad:=n4 k1;rw[<-hf,<-hs.un.1] at ad;have aj:=yD s.un x.pu 0 ad;have al:=hs.un.2;have g2:fZ E m1 (ni E m1 s (qV s.un x.pu 0) k s.io) (-1) (200+iQ d) 1:=yo hE hs a0.ok a8 ⟨K9,K9⟩ hk hs.io;exact⟨a2.up g2.ok g2.keeps,((a0.trans g2).WN K9).more K9 (Ru _)⟩
   ·rw[Ro k1]
    by_cases k2:x.li=2
    ·rw[Rs k2]
     have g2:fZ E m1 ((zI E m1 17 0 k s.io).gw (m1.jp + -1)) (-1) (200+iQ d) 1:=pD a0.ok a8 hk hs.io (.inr (.inr (.inl ⟨.inr rfl,rfl⟩)));exact⟨a2.up g2.ok g2.keeps,((a0.trans g2).WN K9).more K9 (Ru _)⟩
    ·rw[Ro k2]
     by_cases k6:x.li=6
     ·rw[Rs k6]
      obtain⟨w1,w2,_,_⟩:=ED (last:=I) (n0:=200+iQ d) hE hs a2 a8 hk;exact⟨w1,((a0.trans w2).WN K9).more K9 (Ru _)⟩
     ·rw[Ro k6]
      have g2:fZ E m1 ((zI E m1 11 0 k s.io).gw (m1.jp + -1)) (-1) (200+iQ d) 1:=pD a0.ok a8 hk hs.io (.inr (.inr (.inr (.inl ⟨.inr rfl,K9,K9⟩))));have a3:=a2.up g2.ok g2.keeps;refine⟨⟨a3.mo,a3.ut,fun z hz=>?_,a3.fN⟩,((a0.trans g2).WN K9).more K9 (Ru _)⟩;rcases Rr.1 hz with h | h
      ·exact a3.fS z h
      ·rw[Rc.1 h]
       exact AH E m1 11 0 k s.io (.inr rfl)
theorem Kg {E:fX} {rep:Int->Int->fT->fT} {e:Nat} (hE:gR E)(hs:iv E s)(hr:∀ k:Nat,kP E.p k≠0->k<E.p.length->tJ E (rep k) fs d)(hf:s.f=(i:Int))(he:gz E.p i e) :
  ∀(n k:Nat) (L:jk),lj E L->i<k->k+n=e+1->0<=L.m.jp->L.m.jp<=jS (d+1)->lj E (p8 E rep fs s e (E.p.drop k) n k L)/\fZ E L.m (p8 E rep fs s e (E.p.drop k) n k L).m 0 (200+iQ d) (24*n):=by
 intro n;induction n with
 | zero=>
  intro k L hL _ _ _ _;have:p8 E rep fs s e (E.p.drop k) 0 k L=L:=by cases E.p.drop k <;> rfl
  rw[this];exact⟨hL,fZ.refl hL.mo⟩
 | succ n ih=>
  intro k L hL a1 a5 h0 h1;have a0:k<E.p.length:=by have:=he.len;omega
  have hx:E.p[k]?=D E.p[k]:=Rn a0;rw[Rw a0]
  have a4:kP E.p k≠0:=by
   rw[yj hx];intro h;by_cases hke:k=e
   ·subst hke
    obtain⟨y,hy,h7⟩:=he.last;rw[hx] at hy;injection hy with hy
    rw[hy] at h;omega
   ·obtain⟨i',e',z,w1,w2,w3,w4,w5⟩:=hs.rh
    have a3:i'=i:=by rw[hf] at w1;omega
    subst a3;have a2:=w4.WD he;subst a2;exact(w5 k _ a1 K9 hx).1 h
  obtain⟨g1,g2⟩:=F3 hE hs (hr k a4 a0) hL hf he a1 K9 hx ⟨h0,h1⟩;obtain⟨g3,g4⟩:=ih (k+1) _ g1 K9 K9 (by rw[g2.jp];omega) (by rw[g2.jp];omega);exact⟨g3,((g2.trans g4).WN K9).more K9 (Ru _)⟩
def DA (E:fX)(lines:Q Int->fH->fT->fT × Q Int)(d:Nat):Prop:=∀(fs:Q Int)(s:fH)(m:fT)(i e:Nat),iv E s->s.ut = []->fs.length=s.io.length+1->s.io.length+d=3->iC E m->s.f=(i:Int)->gz E.p i e->0<=m.jp->m.jp<=jS (d+1)->
 fZ E m (lines fs s m).1 0 (200+iQ d) (24*(e-i))/\∀ j∈(lines fs s m).2,gV (lines fs s m).1.pi j
theorem Ef {E:fX} {lines:Q Int->fH->fT->fT × Q Int} {k:Nat} (hE:gR E)(hs:iv E s)(hl:DA E lines d)(hfs:fs.length=s.io.length+1)(hd:s.io.length+(d+1)=3)(hk:k<E.p.length)(hk0:kP E.p k≠0):tJ E (fun g m=>jQ E lines fs k s g m) fs (d+1):=by
 intro g m hm a5 hg a0 h0 h1;have a1:s.io.length<=2:=K9;have a3:0<=(k:Int)/\(k:Int)<E.p.length:=⟨K9,K9⟩
 have a4:jS (d+1)<=900:=by unfold jS;omega
 have g1:=FW (n0:=200) hE hs hg a3 hk0 a1 hm h0 K9;have hx:=Bx hE hs hg a3 a1;have a7:=wb a0;obtain⟨i,rfl,x,a9,a8⟩:=hg;obtain⟨e,he,_,_⟩:=hE.pc.body i x a9 a8;have a6:=a7.2.1;rw[he.iV] at a6;have a2:(kD E i k s).io.length=s.io.length+1:=by unfold kD;simp
 obtain⟨g2,g3⟩:=hl (fs++[(i:Int)]) (kD E i k s) (qR E i k s m) i e hx rfl (by rw[a2];simp[hfs]) (by rw[a2];omega) g1.ok rfl he (by rw[g1.jp];omega) (by rw[g1.jp];omega);obtain⟨g4,g5⟩:=zb (lines (fs++[(i:Int)]) (kD E i k s) (qR E i k s m)).2 (lines (fs++[(i:Int)]) (kD E i k s) (qR E i k s m)).1.pi (lines (fs++[(i:Int)]) (kD E i k s) (qR E i k s m)).1.pi.length;unfold jQ;simp only;refine⟨⟨?_,?_⟩,?_,?_,?_,?_⟩
 ·exact FQ _ _ _ g2.ok.ia g3 K9 K9
 ·simp only[fT.gw,fT.iN,g5];exact g2.ok.pos
 ·exact(g1.keeps.trans g2.keeps).trans g4
 ·simp only[fT.gw];rw[g1.jp];omega
 ·simp only[fT.gw,fT.iN,g5]
  have h5:=g1.cnt;have h6:=g2.cnt;have h7:24*(e-i)<=216:=K9;have h8:iQ (d+1)=iQ d+250:=by unfold iQ;omega
  omega
 ·simp only[fT.gw,fT.iN]
  have h5:=g1.gO;have h6:=g2.gO;omega
theorem Gd {E:fX} (hE:gR E){d:Nat}(hrep:∀(fs:Q Int)(s:fH)(k:Nat),iv E s->fs.length=s.io.length+1->s.io.length+d=3->k<E.p.length->kP E.p k≠0->tJ E (fun g m=>jQ E (jc E d) fs k s g m) fs d):DA E (jc E (d+1)) d:=by
 intro fs s m i e hs a3 a2 a4 hm hf he h0 h1;have a0:lj E ⟨m,s.ut,RN E.p.length 0,[]⟩:=⟨hm,fun j hj=>(by simp only[a3] at hj;cases hj),fun z hz=>(by cases hz),fun a ha=>(by rw[Uc ha];simp)⟩
 have a5:=he.lt;obtain⟨g1,g2⟩:=Kg (rep:=fun k g m=>jQ E (jc E d) fs k s g m) hE hs (fun k hk0 hk=>hrep fs s k hs a2 a4 hk hk0) hf he (e-i) (i+1) ⟨m,s.ut,RN E.p.length 0,[]⟩ a0 K9 K9 h0 h1
 have a1:jc E (d+1) fs s m=((p8 E (fun k g m=>jQ E (jc E d) fs k s g m) fs s e (E.p.drop (i+1)) (e-i) (i+1) ⟨m,s.ut,RN E.p.length 0,[]⟩).m,(p8 E (fun k g m=>jQ E (jc E d) fs k s g m) fs s e (E.p.drop (i+1)) (e-i) (i+1) ⟨m,s.ut,RN E.p.length 0,[]⟩).ut):=by
  show wI E (fun fs s k g m=>jQ E (jc E d) fs k s g m) fs s m=_;unfold wI;simp only[hf,he.iV,Ry]
 rw[a1];exact⟨g2,g1.ut⟩
theorem CU {E:fX} (hE:gR E):∀ d:Nat,DA E (jc E (d+1)) d:=by
 intro d;induction d with
 | zero=>
  refine Gd hE (fun fs s k hs hfs hd hk hk0=>?_);intro g m _ _ _ a0;have h1:=(wb a0).1;have h2:=hE.inl.2;omega
 | succ d ih=>exact Gd hE (fun fs s k hs hfs hd hk hk0=>Ef hE hs ih hfs hd hk hk0)
theorem Ch:∀(l:Q fw)(k:Nat),∀ g∈lu l k,∃ i:Nat,g=((k+i:Nat):Int)/\∃ x,l[i]?=D x/\x.li=0
 | [],k,g,h=>by cases h
 | y::r,k,g,h=>by
  unfold lu at h;by_cases hy:y.li=0
  ·rw[Rs hy] at h
   rcases RO.1 h with rfl | h
   ·exact⟨0,rfl,y,rfl,hy⟩
   ·obtain⟨i,h1,x,h2,h3⟩:=Ch r (k+1) g h
    exact⟨i+1,by rw[h1];congr 1;omega,x,by simpa using h2,h3⟩
  ·rw[Ro hy] at h
   obtain⟨i,h1,x,h2,h3⟩:=Ch r (k+1) g h;exact⟨i+1,by rw[h1];congr 1;omega,x,by simpa using h2,h3⟩
theorem wk {g:Int} (h:(zq p)[f]?=D g):WC p g:=by
 obtain⟨i,h1,x,h2,h3⟩:=Ch p 0 g (Rt h);exact⟨i,by rw[h1];simp,x,h2,h3⟩
theorem vL {g:Prop} (f:g:=by
  obtain⟨i,rfl,x,hx,h0⟩:=hfun
  have:=hp.args i x hx
  exact⟨hp,zu.1 hb,hw,by rw[wh hx];exact⟨by simp only;omega,by simp only;omega⟩⟩):g:=f
theorem zH {b:fY} {ww:Int} (hp:j9 p)(hb:fP b.IR 0 3=M)(hf:f<(zq p).length)(hw:0<=ww/\ww<=100) :
  iB p (kS p b f ww).1/\0<(kS p b f ww).1.length/\(kS p b f ww).1.length<=2400/\0<=(kS p b f ww).2/\(kS p b f ww).2<=40:=by
 have hg:(zq p)[f]?=D (zq p)[f]:=Rn hf;have hfun:=wk hg;unfold kS;rw[hg];simp only[Te];generalize (zq p)[f]=g at hfun
 have hE:gR ⟨p,b.IR,lB b f,ww,((iK p g).length:Int)⟩:=by
  exact vL
 have a2:=hfun.parts hE;simp only at a2;obtain⟨i,rfl,x,hx,h0⟩:=hfun;obtain⟨e,he,h8,a3⟩:=hp.body i x hx h0;generalize hEE:(⟨p,b.IR,lB b f,ww,((iK p (i:Int)).length:Int)⟩:fX)=E at hE;have a0:E.p=p:=by rw[<-hEE]
 have a5:E.args=((iK p (i:Int)).length:Int):=by rw[<-hEE]
 have aa:=(Rd.1 hx).1
 have hs:iv E ⟨i,[],zv p i,0,M,[]⟩:=by
  refine⟨⟨i,e,x,rfl,by rw[a0];exact hx,h0,by rw[a0];exact he,by rw[a0];exact a3⟩,⟨by rw[a0],h8⟩,⟨Tz _,by simp⟩,⟨by simp,fun c hc=>(by cases hc)⟩,fun _=>⟨rfl,rfl,by rw[a5];simp only;omega⟩⟩
 have hm:iC E ((zI E ⟨[],0,((zv p i).length:Int)-((iK p (i:Int)).length:Int),I⟩ (if lB b f=M then 13 else 15) ww i []).gw ww):=by
  refine⟨?_,by simp[zI,fT.gw]⟩;intro j y hy;have a9:=(Rd.1 hy).1;simp only[fT.gw,zI,RY,RA,RR] at a9;have hj:j=0:=by omega
  subst hj;simp only[fT.gw,zI,RY,RW,RT] at hy;subst hy;have a4:kP E.p (i:Int)=0:=by rw[a0,yj hx];exact h0
  simp only[fT.gw,zI,RY,ud,RR,Uo,decide_false,Vh];have a1:(if lB b f=M then (13:Int) else 15)=13∨(if lB b f=M then (13:Int) else 15)=15:=by split <;> simp
  generalize (if lB b f=M then (13:Int) else 15)=code at a1;refine⟨by simp only;omega,fun h=>by simp only at h;omega,fun h h'=>by simp only at h h';omega,fun h=>by simp only at h;omega,fun h=>by simp only at h;omega,fun _ _=>hw,fun h=>by simp only at h;omega,⟨by simp only;omega,by rw[a0];simp only;omega⟩,⟨by simp,fun c hc=>(by cases hc)⟩,⟨by simp,by simp,fun h=>(by cases h)⟩,⟨fun _=>?_,fun _=>rfl⟩⟩;rcases a1 with h | h
  ·exact .inl h
  ·exact .inr ⟨h,a4⟩
 have a6:((zI E ⟨[],0,((zv p i).length:Int)-((iK p (i:Int)).length:Int),I⟩ (if lB b f=M then 13 else 15) ww i []).gw ww).pi.length=1:=by simp[zI,fT.gw]
 have a7:((zI E ⟨[],0,((zv p i).length:Int)-((iK p (i:Int)).length:Int),I⟩ (if lB b f=M then 13 else 15) ww i []).gw ww).gO=((zv p i).length:Int)-((iK p (i:Int)).length:Int):=rfl;have a8:((zI E ⟨[],0,((zv p i).length:Int)-((iK p (i:Int)).length:Int),I⟩ (if lB b f=M then 13 else 15) ww i []).gw ww).jp=ww:=rfl;generalize (zI E ⟨[],0,((zv p i).length:Int)-((iK p (i:Int)).length:Int),I⟩ (if lB b f=M then 13 else 15) ww i []).gw ww=Q4 at hm a6 a7 a8 |-;have hL:=(CU hE 3) [(i:Int)] ⟨i,[],zv p i,0,M,[]⟩ Q4 i e hs rfl rfl rfl hm rfl (by rw[a0];exact he) (by omega) (by have:=hw.2;simp only[jS];omega);obtain⟨h1,_⟩:=hL;have h2:=h1.cnt;have h3:=h1.gO;have h5:=he.len;have h6:=hp.len;have h7:=h1.ok.ia;have h9:=h1.ok.pos;rw[a0] at h7;rw[show 3+1=4 from rfl] at h2 h3 h7 h9;generalize jc E 4 [(i:Int)] ⟨i,[],zv p i,0,M,[]⟩ Q4=R at h2 h3 h7 h9 |-;simp only[iQ] at h2;exact⟨h7,h9,by omega,by omega,by omega⟩
theorem Cc {b:fY} (hp:zx p=M)(hb:jP b=M)(hf:f<(zq p).length) :
  iB p (ki p b f)/\0<(ki p b f).length/\(ki p b f).length<=2400:=by
 have hF:=qB hp;unfold jP at hb;rw[Rq] at hb
 have a1:∀ q:Q fw,j9 q->f<(zq q).length->gT q p->iB p (kS q b f (kS q b f 0).2).1/\0<(kS q b f (kS q b f 0).2).1.length/\(kS q b f (kS q b f 0).2).1.length<=2400:=by
  intro q hq a0 hk;obtain⟨_,_,_,h4,h5⟩:=zH (ww:=0) hq hb.2 a0 ⟨K9,K9⟩;obtain⟨g1,g2,g3,_,_⟩:=zH (ww:=(kS q b f 0).2) hq hb.2 a0 ⟨h4,K9⟩;refine⟨fun j x hx=>?_,g2,g3⟩;have h:=g1 j x hx;have a3:∀ k,kP q k=kP p k:=fun k=>by unfold kP;rw[hk.at]
  exact⟨h.code,h.lit,h.var,h.op,h.jump,h.WQ,h.ret,by rw[<-hk.len];exact h.line,by rw[<-hk.len];exact h.io,h.jp,by rw[<-a3];exact h.first⟩
 unfold ki;simp only;split
 ·have a2:qE p=p.map jY:=by unfold qE;rw[Rs hp]
  rw[a2];exact a1 _ hF.fold (by rw[xW];exact hf) (CB p).symm
 ·exact a1 _ hF.c hf rfl
theorem CJ {α:Type}{T:Ty α}{w:U}(hf:∀{cs x S},T.O w cs x S->S = []):∀(xs:Q α)(ecs:Q Value)(S:Q Nat)(k:Nat),AC T w ecs xs S->S = []/\AC T w (ecs.take (k*T.size)) (xs.take k) []
 | [],_,_,k,h=>by
  obtain⟨rfl,rfl⟩:=h;exact⟨rfl,by simp[AC]⟩
 | x::xs,_,_,0,h=>by
  obtain⟨c1,c2,S1,S2,rfl,rfl,h3,h4⟩:=h;obtain rfl:=hf h3;obtain⟨rfl,_⟩:=CJ hf xs c2 S2 0 h4;exact⟨rfl,by simp[AC]⟩
 | x::xs,_,_,k+1,h=>by
  obtain⟨c1,c2,S1,S2,rfl,rfl,h3,h4⟩:=h;obtain rfl:=hf h3;obtain⟨rfl,h5⟩:=CJ hf xs c2 S2 k h4;refine⟨rfl,c1,c2.take (k*T.size),[],[],?_,rfl,h3,h5⟩;have hl:=T.jC h3;have e1:(k+1)*T.size-c1.length=k*T.size:=by rw[hl,Vc,Nat.add_sub_cancel]
  rw[List.take_append,e1,SR (by rw[hl,Vc];omega)]
theorem Has.cut {α:Type} {T:Ty α} (hf:∀{cs x S},T.O W cs x S->S = []){e:R5}{A:X RJ}{n c k:Nat}{xs:Q α}{S:Q Nat}(h:Has (T.sl e) W [G A n c] xs S)(hk:k<=n):Has (T.sl e) W [G A k c] (xs.take k) S:=by
 obtain⟨⟨A',c',a1,S',h1,h2,h3,rfl⟩,hn⟩:=h;injection h1 with h1 _
 injection h1 with hA hn' hc
 subst hA hn' hc;have a0:(xs.take k).length=k:=by rw[SX];omega
 obtain⟨g1,g2⟩:=h2;obtain⟨rfl,h4⟩:=CJ hf xs a1 S' k h3;refine⟨⟨A,c,a1.take (k*T.size),[],by rw[a0],⟨by rw[h4.len],?_⟩,h4,rfl⟩,hn⟩;rw[a0];rcases g2 with⟨hv,h0⟩ | ⟨g,a3,a2,hv,hb,hg,hc,hm,hs,ht⟩
 ·injection hv with hA hn' hc
  subst hA hc;exact .inl ⟨by rw[show k=0 from K9],K9⟩
 ·injection hv with hA hn' hc'
  subst hA hc';refine .inr ⟨g,c,a2,rfl,hb,hg,K9,hm,hs,?_⟩;rw[<-ht,List.take_take,Ve (Tb _ hk)]
theorem jd {cur cur':Array Value} {v:Value} (h:W.heap[g]?=D (F cur e (0,0)))(hc:cur.setIfInBounds i v=cur'):(W.setCell ⟨g,i,C⟩ v).heap[g]?=D (F cur' e (0,0)):=by
 rw[zV h i v,hc]
theorem rR (h:W.heap[g]?=D (F #[o0,o1,o2] e (0,0)))(v0 v1 v2:Value) :
  (((W.setCell ⟨g,0,C⟩ v0).setCell ⟨g,1,C⟩ v1).setCell ⟨g,2,C⟩ v2).heap[g]?=D (F #[v0,v1,v2] e (0,0))/\fx [g] W (((W.setCell ⟨g,0,C⟩ v0).setCell ⟨g,1,C⟩ v1).setCell ⟨g,2,C⟩ v2):=
 ⟨(jd (i:=2) (v:=v2) (cur':=#[v0,v1,v2]) (jd (i:=1) (v:=v1) (cur':=#[v0,v1,o2]) (jd (i:=0) (v:=v0) (cur':=#[v0,o1,o2]) h rfl) rfl) rfl),((((fx.refl _ _).setCell (p:=⟨g,0,C⟩) II v0).setCell (p:=⟨g,1,C⟩) II v1).setCell (p:=⟨g,2,C⟩) II v2)⟩
theorem iS (h:W.heap[g]?=D (F #[o0,o1,o2] e (0,0))) :
  Rb W ⟨g,0,C⟩=D o0/\Rb W ⟨g,1,C⟩=D o1/\Rb W ⟨g,2,C⟩=D o2/\(∀ j,Rx W ⟨g,j,C⟩=I)/\g<W.heap.size:=by
 refine⟨?_,?_,?_,fun j=>by simp[Rx,h],(blt h)⟩
 all_goals
  rw[Sw W g _ _ _ (0,0) h]
  rfl
theorem tK (h:W.heap[g]?=D (F #[o0,o1,o2,o3,o4] e (0,0)))(v0 v1 v2 v3 v4:Value) :
  (((((W.setCell ⟨g,0,C⟩ v0).setCell ⟨g,1,C⟩ v1).setCell ⟨g,2,C⟩ v2).setCell ⟨g,3,C⟩ v3).setCell ⟨g,4,C⟩ v4).heap[g]?=D (F #[v0,v1,v2,v3,v4] e (0,0))/\fx [g] W (((((W.setCell ⟨g,0,C⟩ v0).setCell ⟨g,1,C⟩ v1).setCell ⟨g,2,C⟩ v2).setCell ⟨g,3,C⟩ v3).setCell ⟨g,4,C⟩ v4):=
 ⟨(jd (i:=4) (v:=v4) (cur':=#[v0,v1,v2,v3,v4]) (jd (i:=3) (v:=v3) (cur':=#[v0,v1,v2,v3,o4]) (jd (i:=2) (v:=v2) (cur':=#[v0,v1,v2,o3,o4]) (jd (i:=1) (v:=v1) (cur':=#[v0,v1,o2,o3,o4]) (jd (i:=0) (v:=v0) (cur':=#[v0,o1,o2,o3,o4]) h rfl) rfl) rfl) rfl) rfl),((((((fx.refl _ _).setCell (p:=⟨g,0,C⟩) II v0).setCell (p:=⟨g,1,C⟩) II v1).setCell (p:=⟨g,2,C⟩) II v2).setCell (p:=⟨g,3,C⟩) II v3).setCell (p:=⟨g,4,C⟩) II v4)⟩
theorem jg (h:W.heap[g]?=D (F #[o0,o1,o2,o3,o4] e (0,0))) :
  Rb W ⟨g,0,C⟩=D o0/\Rb W ⟨g,1,C⟩=D o1/\Rb W ⟨g,2,C⟩=D o2/\Rb W ⟨g,3,C⟩=D o3/\Rb W ⟨g,4,C⟩=D o4/\(∀ j,Rx W ⟨g,j,C⟩=I)/\g<W.heap.size:=by
 refine⟨?_,?_,?_,?_,?_,fun j=>by simp[Rx,h],(blt h)⟩
 all_goals
  rw[Sw W g _ _ _ (0,0) h]
  rfl
theorem lO (h:W.heap[g]?=D (F #[o0,o1,o2,o3,o4,o5,o6] e (0,0)))(v0 v1 v2 v3 v4 v5 v6:Value) :
  (((((((W.setCell ⟨g,0,C⟩ v0).setCell ⟨g,1,C⟩ v1).setCell ⟨g,2,C⟩ v2).setCell ⟨g,3,C⟩ v3).setCell ⟨g,4,C⟩ v4).setCell ⟨g,5,C⟩ v5).setCell ⟨g,6,C⟩ v6).heap[g]?=D (F #[v0,v1,v2,v3,v4,v5,v6] e (0,0))/\fx [g] W (((((((W.setCell ⟨g,0,C⟩ v0).setCell ⟨g,1,C⟩ v1).setCell ⟨g,2,C⟩ v2).setCell ⟨g,3,C⟩ v3).setCell ⟨g,4,C⟩ v4).setCell ⟨g,5,C⟩ v5).setCell ⟨g,6,C⟩ v6):=
 ⟨(jd (i:=6) (v:=v6) (cur':=#[v0,v1,v2,v3,v4,v5,v6]) (jd (i:=5) (v:=v5) (cur':=#[v0,v1,v2,v3,v4,v5,o6]) (jd (i:=4) (v:=v4) (cur':=#[v0,v1,v2,v3,v4,o5,o6]) (jd (i:=3) (v:=v3) (cur':=#[v0,v1,v2,v3,o4,o5,o6]) (jd (i:=2) (v:=v2) (cur':=#[v0,v1,v2,o3,o4,o5,o6]) (jd (i:=1) (v:=v1) (cur':=#[v0,v1,o2,o3,o4,o5,o6]) (jd (i:=0) (v:=v0) (cur':=#[v0,o1,o2,o3,o4,o5,o6]) h rfl) rfl) rfl) rfl) rfl) rfl) rfl),((((((((fx.refl _ _).setCell (p:=⟨g,0,C⟩) II v0).setCell (p:=⟨g,1,C⟩) II v1).setCell (p:=⟨g,2,C⟩) II v2).setCell (p:=⟨g,3,C⟩) II v3).setCell (p:=⟨g,4,C⟩) II v4).setCell (p:=⟨g,5,C⟩) II v5).setCell (p:=⟨g,6,C⟩) II v6)⟩
theorem zK (h:W.heap[g]?=D (F #[o0,o1,o2,o3,o4,o5,o6] e (0,0))) :
  Rb W ⟨g,0,C⟩=D o0/\Rb W ⟨g,1,C⟩=D o1/\Rb W ⟨g,2,C⟩=D o2/\Rb W ⟨g,3,C⟩=D o3/\Rb W ⟨g,4,C⟩=D o4/\Rb W ⟨g,5,C⟩=D o5/\Rb W ⟨g,6,C⟩=D o6/\(∀ j,Rx W ⟨g,j,C⟩=I)/\g<W.heap.size:=by
 refine⟨?_,?_,?_,?_,?_,?_,?_,fun j=>by simp[Rx,h],(blt h)⟩
 all_goals
  rw[Sw W g _ _ _ (0,0) h]
  rfl
theorem zC {v:Value} (hc:Rb Q5 ⟨g,i,C⟩=D v)(hg:fu Q5 W)(hon:fx S W W')(hn:g∉S):Rb W' ⟨g,i,C⟩=D v:=by
 have hl:=R7 _ _ hc;simp only at hl;obtain⟨os,d,rfl⟩:=hg;exact(hon.cell (Ri hl (fu.of Q5 os d).size) hn i).trans (zd hc os d)
theorem yq {gp:Nat} {v u:Value} (hc:Rb W ⟨g,i,C⟩=D v)(hn:g≠gp):(W.setCell ⟨gp,j,C⟩ u).cell? ⟨g,i,C⟩=D v:=by
 have hl:=R7 _ _ hc;simp only at hl;exact(((fx.refl [gp] W).setCell (p:=⟨gp,j,C⟩) II u).cell hl (by simpa using hn) i).trans hc
theorem yu {o:Obj} (hb:Q5.heap[g]?=D o)(hg:fu Q5 W)(hon:fx S W W')(hn:g∉S):W'.heap[g]?=D o:=by
 have hl:=(blt hb)
 exact(hon.block g (Ri hl hg.size) hn).trans (zj hb hg)
theorem Qp {w:U} {B:Nat} {A:X RJ} {c:Nat} {xs:Q fM} (h:(ph.sl e).R w B [G A n c] xs){k:Nat}(hk:k<xs.length) :
  ∃ g off x A0 c0,A=D ⟨g,off,C⟩/\g<B/\xs[k]?=D x/\Rb w ⟨g,off+k*7,C⟩=D (J Z x.Op.Code)/\Rb w ⟨g,off+k*7+1,C⟩=D (J Z x.Op.Wv)/\Rb w ⟨g,off+k*7+2,C⟩=D (J Z x.fG)/\Rb w ⟨g,off+k*7+3,C⟩=D (H x.kw)/\Rb w ⟨g,off+k*7+4,C⟩=D (G A0 x.fB.length c0)/\Rb w ⟨g,off+k*7+5,C⟩=D (J Z x.fF)/\Rb w ⟨g,off+k*7+6,C⟩=D (H x.fD)/\fE x.Op.Code/\fE x.Op.Wv/\fE x.fG/\(zr.sl 3).R w B [G A0 x.fB.length c0] x.fB/\fE x.fF:=by
 obtain⟨g,off,x,ec,h1,hB,h2,h3,h4⟩:=nU h hk;obtain⟨A0,c0,rfl,hf⟩:=PJ h3;exact⟨g,off,x,A0,c0,h1,hB,h2,h4 0 _ rfl,h4 1 _ rfl,h4 2 _ rfl,h4 3 _ rfl,h4 4 _ rfl,h4 5 _ rfl,h4 6 _ rfl,hf⟩
theorem XA:(prog.info? 227).map (fun i=>(i.zero,i.size,i.bytes))=D (D (.agg #[J Z 0,J Z 0,J Z 0,H I,G C 0 0,J Z 0,H I]),7,72):=Fs
theorem Qt:hU prog 232 227 ph 72:=by
 obtain⟨i0,hi,a0,a1,a2⟩:=Tn XA;exact⟨underlying232,⟨i0,_,hi,a0,a1,a2,rfl⟩,qo⟩
end Go.Proofs.YthgbglbaemelhaaGreat
