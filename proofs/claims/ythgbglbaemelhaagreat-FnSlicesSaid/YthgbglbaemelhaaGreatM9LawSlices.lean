/-
  PART.
-/
import Derived.Test.YthgbglbaemelhaaGreatM8LawSlices
set_option linter.unusedVariables false
set_option linter.unusedSimpArgs false
set_option maxRecDepth 100000
set_option maxHeartbeats 8000000
namespace Go.Proofs.YthgbglbaemelhaaGreat
open Value renaming int->J
open IntKind renaming i64->C,wrap->QP
open Option renaming some->Z,getD_some->Sq
open Bool renaming false->I,true->M
open Go renaming World->U,Calls->Rh,yielded->Su
open _root_.Int renaming toNat_natCast->Ra
open List renaming length_cons->Rc,replicate->Ro,length_nil->Ru,getElem?_cons_zero->RA,nil_append->RC,foldl_cons->TC
open RowKit renaming wrap64->Sf
open BitVec renaming ofInt->Tg
open Region renaming wanted->Rx,ready->RL,noSelect->Tn,free->Ui
open Tryz
open Go.RowKit
variable {a b m:fS}{arg code g k line v:Int}{chain fs:Q Int}{d e f i j n n0:Nat}{l:Q fP}{p:Q fv}{s:fG}{t:gB}{w:U}{x:fv}
def jN (d:Nat):Int:=900-30*(d:Int)
def iO (d:Nat):Nat:=250*d
structure oB (p:Q fv)(n j:Nat)(x:fP):Prop where
 code:0<=x.Op.Code/\x.Op.Code<=17
 lit:x.Op.Code=0->0<=x.Op.Arg/\x.Op.Arg<=999
 var:1<=x.Op.Code->x.Op.Code<=4->-2000<=x.Op.Arg/\x.Op.Arg<=2000
 op:(5<=x.Op.Code/\x.Op.Code<=9)∨x.Op.Code=17->x.Op.Arg=0
 jump:x.Op.Code=10∨x.Op.Code=11->0<=x.Op.Arg/\x.Op.Arg<=n
 small:12<=x.Op.Code->x.Op.Code<=15->0<=x.Op.Arg/\x.Op.Arg<=100
 ret:x.Op.Code=16->0<=x.Op.Arg/\x.Op.Arg<=2000
 line:0<=x.fH/\x.fH<p.length
 chain:x.fB.length<=3/\∀ c∈x.fB,0<=c/\c<p.length
 depth:0<=x.fE/\x.fE<=1000/\(x.fF=M->x.fE=0)
 first:j=0↔x.Op.Code=13∨(x.Op.Code=15/\kM p x.fH=0)
def iA (p:Q fv)(l:Q fP):Prop:=∀(j:Nat)(x:fP),l[j]?=Z x->oB p l.length j x
theorem oB.up {m:Nat} {x:fP} (h:oB p n j x)(hn:n<=m):oB p m j x:=
 ⟨h.code,h.lit,h.var,h.op,fun hc=>by have:=h.jump hc;omega,h.small,h.ret,h.line,h.chain,h.depth,h.first⟩
theorem iA.snoc {x:fP} (h:iA p l)(hx:oB p (l.length+1) l.length x):iA p (l++[x]):=by
 intro j y hy;rw[QR];by_cases hj:j<l.length
 ·rw[RY hj] at hy
  exact(h j y hy).up (by simp)
 ·have a0:=(QM.1 hy).1
  simp only[QR,Rc,Ru] at a0;have:j=l.length:=by omega
  subst this;rw[RF (Q8 _),RP] at hy;simp only[RA,Rv] at hy;subst hy;exact hx
theorem wL (l:Q fP)(j:Nat)(v:Int):(mw l j v).length=l.length:=by
 unfold mw;cases l[j]? with
 | none=>rfl
 | some x=>simp
theorem Lp {y:fP} (h:(mw l j v)[i]?=Z y):(i≠j/\l[i]?=Z y)∨(i=j/\∃ x,l[j]?=Z x/\y = { x with Op:=⟨x.Op.Code,v⟩ }):=by
 unfold mw at h;cases hx:l[j]? with
 | none=>
  rw[hx] at h;refine .inl ⟨fun hh=>?_,h⟩;subst hh;simp only at h;rw[hx] at h;cases h
 | some x=>
  rw[hx] at h;simp only at h;rw[UF] at h;by_cases hij:j=i
  ·subst hij
   have hl:=(QM.1 hx).1;simp only[Tk,hl,Tk,Rv] at h;exact .inr ⟨rfl,x,rfl,h.symm⟩
  ·rw[QZ hij] at h
   exact .inl ⟨fun hh=>hij hh.symm,h⟩
def gU (l:Q fP)(j:Int):Prop:=∃(i:Nat)(x:fP),j=(i:Int)/\l[i]?=Z x/\(x.Op.Code=10∨x.Op.Code=11)
theorem FJ {j:Int} (h:iA p l)(hj:gU l j)(h0:0<=v)(hv:v<=l.length):iA p (mw l j.toNat v):=by
 obtain⟨a,x,rfl,hx,hc⟩:=hj;rw[Ra];intro i y hy;rw[wL];rcases Lp hy with⟨_,h2⟩ | ⟨rfl,x',a0,rfl⟩
 ·exact h i y h2
 ·rw[hx] at a0
  injection a0 with a0
  subst a0;have hi:=h i x hx;exact⟨hi.code,fun h0=>by simp only at h0;omega,fun h1 h2=>by simp only at h1 h2;omega,fun h1=>by simp only at h1;omega,fun _=>⟨h0,hv⟩,fun h1 h2=>by simp only at h1 h2;omega,fun h1=>by simp only at h1;omega,hi.line,hi.chain,hi.depth,hi.first⟩
theorem Bz {j:Int} (h:gU l j):gU (mw l i v) j:=by
 obtain⟨a,x,rfl,hx,hc⟩:=h;unfold mw;cases hy:l[i]? with
 | none=>exact⟨a,x,rfl,hx,hc⟩
 | some y=>
  simp only;by_cases hai:i=a
  ·subst hai
   rw[hx] at hy;injection hy with hy
   subst hy;exact⟨i,{ x with Op:=⟨x.Op.Code,v⟩ },rfl,by rw[Tp (QM.1 hx).1],hc⟩
  ·exact⟨a,x,rfl,by rw[TX hai];exact hx,hc⟩
theorem gU.app {r:Q fP} {j:Int} (h:gU l j):gU (l++r) j:=by
 obtain⟨a,x,rfl,hx,hc⟩:=h;exact⟨a,x,rfl,by rw[RY (QM.1 hx).1];exact hx,hc⟩
structure ie (l l':Q fP):Prop where
 len:l.length<=l'.length
 jump:∀ j,gU l j->gU l' j
theorem ie.refl (l:Q fP):ie l l:=⟨Q8 _,fun _ h=>h⟩
theorem ie.trans {a b c:Q fP} (h:ie a b)(k:ie b c):ie a c:=⟨Rj h.len k.len,fun j hj=>k.jump j (h.jump j hj)⟩
theorem ie.app (l r:Q fP):ie l (l++r):=⟨by simp,fun _ h=>h.app⟩
theorem ie.set (l:Q fP)(j:Nat)(v:Int):ie l (mw l j v):=⟨by rw[wL];exact Q8 _,fun _ h=>Bz h⟩
theorem yJ:∀(js:Q Int)(l:Q fP)(v:Int),ie l (pN l js v)/\(pN l js v).length=l.length
 | [],l,v=>⟨ie.refl _,rfl⟩
 | j::js,l,v=>by
  obtain⟨h1,h2⟩:=yJ js (mw l j.toNat v) v;exact⟨(ie.set _ _ _).trans h1,by rw[<-wL l j.toNat v];exact h2⟩
theorem Fm {p:Q fv}:∀(js:Q Int)(l:Q fP)(v:Int),iA p l->(∀ j∈js,gU l j)->0<=v->v<=l.length->iA p (pN l js v)
 | [],l,v,h,_,_,_=>h
 | j::js,l,v,h,hj,h0,hv=>by
  exact Fm js (mw l j.toNat v) v (FJ h (hj j (.head _)) h0 hv) (fun a ha=>Bz (hj a (.tail _ ha))) h0 (by rw[wL];exact hv)
theorem s9:∀(es:Q (Int × Int))(l:Q fP)(tgt v:Int),ie l (nU l es tgt v)/\(nU l es tgt v).length=l.length
 | [],l,tgt,v=>⟨ie.refl _,rfl⟩
 | e::es,l,tgt,v=>by
  unfold nU;simp only[TC];by_cases he:e.1=tgt
  ·rw[Q5 he]
   obtain⟨h1,h2⟩:=s9 es (mw l e.2.toNat v) tgt v;exact⟨(ie.set _ _ _).trans h1,by rw[<-wL l e.2.toNat v];exact h2⟩
  ·rw[QZ he]
   exact s9 es l tgt v
theorem CA {p:Q fv}:∀(es:Q (Int × Int))(l:Q fP)(tgt v:Int),iA p l->(∀ e∈es,gU l e.2)->0<=v->v<=l.length->iA p (nU l es tgt v)
 | [],l,tgt,v,h,_,_,_=>h
 | e::es,l,tgt,v,h,hj,h0,hv=>by
  unfold nU;simp only[TC];by_cases he:e.1=tgt
  ·rw[Q5 he]
   exact CA es (mw l e.2.toNat v) tgt v (FJ h (hj e (.head _)) h0 hv) (fun a ha=>Bz (hj a (.tail _ ha))) h0 (by rw[wL];exact hv)
  ·rw[QZ he]
   exact CA es l tgt v h (fun a ha=>hj a (.tail _ ha)) h0 hv
structure gP (E:fW):Prop where
 pc:j9 E.p
 inl:0<=E.inl/\E.inl<=3
 words:0<=E.words/\E.words<=100
 args:0<=E.args/\E.args<=4
structure iu (E:fW)(s:fG):Prop where
 qN:∃(i e:Nat) (x:fv),s.f=(i:Int)/\E.p[i]?=Z x/\x.Kind=0/\gz E.p i e/\(∀(j:Nat) (y:fv),i<j->j<e->E.p[j]?=Z y->y.Kind≠0/\zQ E.p (zq E.p i) y.Expr=M/\(y.Kind=4->∃ a,i<=a/\a<j/\iW E.p a j)/\(y.Kind=1->jA (zq E.p i) y.Name=M))
 locals:s.locals=zq E.p s.f/\s.locals.length<=8
 first:0<=s.first/\s.first<=8*(s.chain.length:Int)
 chain:s.chain.length<=3/\∀ c∈s.chain,0<=c/\c<E.p.length
 outer:s.outer=M->s.chain = []/\s.first=0/\E.args<=s.locals.length
theorem Ns {E:fW} (hE:iA E.p m.items)(hd:0<=m.depth/\m.depth<=1000)(h:∀(x:fP),x.Op=⟨code,arg⟩->x.fH=line->x.fB=chain->(0<=x.fE/\x.fE<=1000/\(x.fF=M->x.fE=0))->oB E.p (m.items.length+1) m.items.length x):iA E.p (zB E m code arg line chain).items:=by
 refine hE.snoc (h _ rfl rfl rfl ?_);unfold tF;simp only;cases hb:(E.gV && decide (0<m.items.length)) with
 | true=>exact⟨SK _,by simp,fun _=>rfl⟩
 | false=>exact⟨hd.1,hd.2,fun h=>by cases h⟩
theorem wJ (E:fW)(m:fS)(code arg line:Int)(chain:Q Int):(zB E m code arg line chain).items.length=m.items.length+1:=by simp[zB]
theorem Pa {x:fP} (hop:x.Op=⟨code,arg⟩)(hl:x.fH=line)(hc:x.fB=chain)(hd:0<=x.fE/\x.fE<=1000/\(x.fF=M->x.fE=0))(hj:0<j)
  (hline:0<=line/\line<p.length) (hchain:chain.length<=3/\∀ c∈chain,0<=c/\c<p.length)
  (h:(code=0/\0<=arg/\arg<=999)∨(1<=code/\code<=4/\-2000<=arg/\arg<=2000)∨(((5<=code/\code<=9)∨code=17)/\arg=0)∨((code=10∨code=11)/\0<=arg/\arg<=n)∨((code=12∨code=14∨(code=15/\kM p line≠0))/\0<=arg/\arg<=100)∨(code=16/\0<=arg/\arg<=2000)):oB p n j x:=by
 have h1:x.Op.Code=code:=by rw[hop]
 have h2:x.Op.Arg=arg:=by rw[hop]
 refine⟨by rw[h1];omega,fun h0=>by rw[h1] at h0;rw[h2];omega,fun a b=>by rw[h1] at a b;rw[h2];omega,fun a=>by rw[h1] at a;rw[h2];omega,fun a=>by rw[h1] at a;rw[h2];omega,fun a b=>by rw[h1] at a b;rw[h2];omega,fun a=>by rw[h1] at a;rw[h2];omega,by rw[hl];exact hline,by rw[hc];exact hchain,hd,?_⟩;rw[h1,hl];constructor
 ·intro h0;omega
 ·rintro(h0 | ⟨h0,h3⟩)
  ·exfalso;omega
  ·exfalso
   rcases h with h | h | h | h | h | h
   ·omega
   ·omega
   ·omega
   ·omega
   ·obtain⟨h4 | h4 | ⟨_,h4⟩,_⟩:=h
    ·omega
    ·omega
    ·exact h4 h3
   ·omega
theorem yh:∀(l:Q N)(s:N)(i:Nat),jA l s=M->(i:Int)<=qH l s i/\qH l s i<i+l.length
 | [],s,i,h=>by simp[jA] at h
 | y::r,s,i,h=>by
  unfold qH;by_cases hy:y=s
  ·rw[Q5 hy]
   simp only[Rc];omega
  ·rw[QZ hy]
   have h2:jA r s=M:=by
    unfold jA at h |-;rw[List.any_cons] at h;simpa[hy] using h
   have:=yh r s (i+1) h2;simp only[Rc];omega
theorem Gb {E:fW} {d:Int} {i:Int} {st:Bool} (hE:gP E)(hs:iu E s)(hd:0<=d/\d<=1000)(hi:0<=i/\i<8):1<=(oR E d s i st).1/\(oR E d s i st).1<=4/\-2000<=(oR E d s i st).2/\(oR E d s i st).2<=2000:=by
 have h1:=hE.args;have h2:=hs.first;have h3:=hs.chain.1;unfold oR;simp only;refine⟨?_,?_,?_,?_⟩
 ·split <;> split <;> omega
 ·split <;> split <;> omega
 ·split <;> split <;> (try split) <;> omega
 ·split <;> split <;> (try split) <;> omega
structure iB (E:fW)(m:fS):Prop where
 hJ:iA E.p m.items
 pos:0<m.items.length
structure fZ (E:fW)(m m':fS)(dd:Int)(n0 w:Nat):Prop where
 ok:iB E m'
 keeps:ie m.items m'.items
 depth:m'.depth=m.depth+dd
 cnt:m'.items.length<=max m.items.length n0+w
 gL:m.gL<=m'.gL/\m'.gL<=max m.gL 40
theorem fZ.refl {E:fW}{m:fS}{n0:Nat}(h:iB E m):fZ E m m 0 n0 0:=⟨h,ie.refl _,by omega,by omega,by omega⟩
theorem fZ.trans {E:fW}{a b c:fS}{d1 d2:Int}{n0 w1 w2:Nat}(h:fZ E a b d1 n0 w1)(k:fZ E b c d2 n0 w2):fZ E a c (d1+d2) n0 (w1+w2):=
 ⟨k.ok,h.keeps.trans k.keeps,by rw[k.depth,h.depth];omega,by have:=h.cnt;have:=k.cnt;omega,by have:=h.gL;have:=k.gL;omega⟩
theorem fZ.more {E:fW} {d:Int} {n1 w1 w2:Nat} (h:fZ E a b d n0 w1)(hw:w1<=w2)(hn:n0<=n1):fZ E a b d n1 w2:=⟨h.ok,h.keeps,h.depth,by have:=h.cnt;omega,h.gL⟩
theorem fZ.dep {E:fW} {d d':Int} {w:Nat} (h:fZ E a b d n0 w)(hd:d=d'):fZ E a b d' n0 w:=by subst hd;exact h
theorem po {E:fW} {dd:Int} (hm:iB E m)(hd:0<=m.depth/\m.depth<=1000)(hline:0<=line/\line<E.p.length)(hchain:chain.length<=3/\∀ c∈chain,0<=c/\c<E.p.length)
  (h:(code=0/\0<=arg/\arg<=999)∨(1<=code/\code<=4/\-2000<=arg/\arg<=2000)∨(((5<=code/\code<=9)∨code=17)/\arg=0)∨((code=10∨code=11)/\0<=arg/\arg<=m.items.length+1)∨((code=12∨code=14∨(code=15/\kM E.p line≠0))/\0<=arg/\arg<=100)∨(code=16/\0<=arg/\arg<=2000)) :
  fZ E m ((zB E m code arg line chain).gw (m.depth+dd)) dd n0 1:=by
 refine⟨⟨?_,by simp[zB,fS.gw]⟩,ie.app _ _,rfl,by have:=wJ E m code arg line chain;simp only[fS.gw,this];omega,by simp only[zB,fS.gw];omega⟩;exact Ns hm.hJ hd (fun x h1 h2 h3 h4=>Pa h1 h2 h3 h4 hm.pos hline hchain h)
theorem zb (E:fW)(m:fS)(code arg line:Int)(chain:Q Int)(h:code=10∨code=11):gU (zB E m code arg line chain).items (m.items.length:Int):=
 ⟨m.items.length,_,rfl,by unfold zB;simp only;rw[RF (Q8 _),RP];rfl,h⟩
def sT (E:fW)(rep:Int->fS->fS)(fs:Q Int)(d:Nat):Prop:=∀(g:Int)(m:fS),iB E m->m.items.length<200->(∃ i:Nat,g=(i:Int)/\∃ x,E.p[i]?=Z x/\x.Kind=0)->mP E fs m g=M->
 ((zZ E.p g).length:Int)<=m.depth->m.depth<=jN d->fZ E m (rep g m) (1-((zZ E.p g).length:Int)) (200+iO d) 0
theorem KG (p:Q fv)(h:(zp p).length<=6)(g:Int):0<=sF p g/\sF p g<=6:=by
 unfold sF;have:=Uq (fun k=>decide (k<g)) (zp p);omega
theorem Fx (h:lh t=M):0<=t.Kind/\t.Kind<=7:=by
 unfold lh at h;split at h
 ·omega
 ·split at h
  ·omega
  ·split at h
   ·omega
   ·rw[Q4,zu] at h
    omega
theorem N8 (h:lh t=M)(h0:t.Kind=0):0<=t.gW/\t.gW<=999:=by
 unfold lh at h;rw[Q5 h0,Q4,zu] at h;exact h.1
theorem Fw (h:lh t=M)(h0:t.Kind=7):0<=t.gW/\t.gW<=4:=by
 unfold lh at h;rw[QZ (by omega),QZ (by omega),Q5 h0,Q4,zu] at h;exact h.1
theorem Bx {locals:Q N} (h:zP p locals t=M)(h7:t.Kind=7):∃(i:Nat)(x:fv),kz p t.Name=(i:Int)/\p[i]?=Z x/\x.Kind=0/\(x.fM.length:Int)=t.gW:=by
 unfold zP at h;rw[QZ (by omega),Q5 h7] at h;rcases Kq p t.Name with h1 | ⟨i,x,h1,h2,h3,_⟩
 ·rw[h1] at h;simp at h
 ·rw[h1,QZ (by omega),Ra,h2] at h
  simp only[Rg] at h;exact⟨i,x,h1,h2,h3,h⟩
theorem vG (h:p[i]?=Z x):zZ p (i:Int)=x.fM:=by
 unfold zZ;rw[Ra,h]
theorem yK (h:lh t=M)(h7:t.Kind=7):jk t=t.gW:=by unfold jk;rw[Q5 h,Q5 h7]
theorem Fk (h:lh t=M)(h0:t.Kind=0∨t.Kind=1):jk t=0:=by unfold jk;rw[Q5 h,QZ (by omega),Q5 h0]
theorem GO (h:lh t=M)(h0:t.Kind≠0)(h1:t.Kind≠1)(h7:t.Kind≠7):jk t=2:=by unfold jk;rw[Q5 h,QZ h7,QZ (by omega)]
theorem vE {E:fW} (h:mP E fs m g=M):(fs.length:Int)-1<E.inl/\iN E.p g-g<=9/\m.items.length<200/\fs.any (fun f=>decide (f=g))=I:=by
 unfold mP at h;simp only[Q4,Rg,TU] at h;exact⟨h.1,h.2.1,by omega,h.2.2.2⟩
theorem Ow {E:fW} {rep:Int->fS->fS} (hE:gP E)(hs:iu E s)(hr:sT E rep fs d)(hm:iB E m)(ht:lh t=M)(hn:zP E.p s.locals t=M)(hk:0<=k/\k<E.p.length)
  (h0:jk t<=m.depth) (h1:m.depth<=jN d):fZ E m (oz E rep fs s k t m) (1-jk t) (200+iO d) 1:=by
 have ha:=Ar ht;have a1:jN d<=900:=by unfold jN;omega
 unfold oz;by_cases k0:t.Kind=0
 ·rw[Q5 k0,Fk ht (.inl k0)]
  exact po hm ⟨by omega,by omega⟩ hk hs.chain (.inl ⟨rfl,N8 ht k0⟩)
 ·rw[QZ k0]
  by_cases k1:t.Kind=1
  ·rw[Q5 k1,Fk ht (.inr k1)]
   have a2:jA s.locals t.Name=M:=by
    unfold zP at hn;rwa [Q5 k1] at hn
   have hx:=yh s.locals t.Name 0 a2;have hl:=hs.locals.2;have hp:=Gb (st:=I) (i:=qH s.locals t.Name 0) hE hs (d:=m.depth) ⟨by omega,by omega⟩ ⟨by omega,by omega⟩;exact po hm ⟨by omega,by omega⟩ hk hs.chain (.inr (.inl hp))
  ·rw[QZ k1]
   by_cases k7:t.Kind=7
   ·rw[Q5 k7,yK ht k7]
    rw[yK ht k7] at h0;obtain⟨i,x,g1,g2,g3,g4⟩:=Bx hn k7;have hc:=Fw ht k7;cases hrep:mP E fs m (kz E.p t.Name) with
    | true=>
     rw[Q5 rfl];have a0:((zZ E.p (kz E.p t.Name)).length:Int)=t.gW:=by rw[g1,vG g2];exact g4
     have:=hr (kz E.p t.Name) m hm (vE hrep).2.2.1 ⟨i,g1,x,g2,g3⟩ hrep (by omega) h1;rw[a0] at this;exact this.more (by omega) (Q8 _)
    | false=>
     rw[QZ (by simp)];have a3:=KG E.p hE.pc.mj (kz E.p t.Name);have:=po (dd:=1-t.gW) (n0:=200+iO d) hm (code:=12) (arg:=sF E.p (kz E.p t.Name)) (line:=k) (chain:=s.chain) ⟨by omega,by omega⟩ hk hs.chain (.inr (.inr (.inr (.inr (.inl ⟨.inl rfl,by omega,by omega⟩)))));rw[show m.depth-t.gW+1=m.depth+(1-t.gW) from by omega];exact this
   ·rw[QZ k7,GO ht k0 k1 k7]
    rw[GO ht k0 k1 k7] at h0;have a4:=Fx ht;exact po (dd:=-1) hm ⟨by omega,by omega⟩ hk hs.chain (.inr (.inr (.inl ⟨.inl ⟨by omega,by omega⟩,rfl⟩)))
mutual
theorem Ex.iI {E:fW}{rep:Int->fS->fS}{fs:Q Int}{s:fG}{k:Int}{d:Nat}(hE:gP E)(hs:iu E s)(hr:sT E rep fs d)(hk:0<=k/\k<E.p.length):∀(e:Ex)(m:fS),e.wf->zQ E.p s.locals e.flat=M->iB E m->0<=m.depth->m.depth+e.size<=jN d+1->fZ E m (e.comp E rep fs s k m) 1 (200+iO d) e.size
 | .node t ks,m,hw,hn,hm,h0,h1=>by
  simp only[Ex.size] at h1;simp only[Ex.flat,zQ,List.all_cons,Q4] at hn;have a0:=ks.kr;have g1:=gk.iI hE hs hr hk ks m hw.2.2 hn.2 hm h0 (by omega);have g2:=Ow hE hs hr g1.ok hw.1 hn.1 hk (by rw[g1.depth,hw.2.1];omega) (by rw[g1.depth];omega);exact((g1.trans g2).dep (by rw[hw.2.1];omega)).more (by simp only[Ex.size];omega) (Q8 _)
theorem gk.iI {E:fW}{rep:Int->fS->fS}{fs:Q Int}{s:fG}{k:Int}{d:Nat}(hE:gP E)(hs:iu E s)(hr:sT E rep fs d)(hk:0<=k/\k<E.p.length):∀(ks:gk)(m:fS),ks.wf->zQ E.p s.locals ks.flat=M->iB E m->0<=m.depth->m.depth+ks.size<=jN d+1->fZ E m (ks.comp E rep fs s k m) ks.len (200+iO d) ks.size
 | .nil,m,_,_,hm,_,_=>fZ.refl hm
 | .cons e r,m,hw,hn,hm,h0,h1=>by
  simp only[gk.size] at h1;simp only[gk.flat,zQ,TQ,Q4] at hn;have he:=e.size_pos;have g1:=Ex.iI hE hs hr hk e m hw.1 hn.1 hm h0 (by omega);have g2:=gk.iI hE hs hr hk r _ hw.2 hn.2 g1.ok (by rw[g1.depth];omega) (by rw[g1.depth];omega);exact((g1.trans g2).dep (by simp only[gk.len];omega)).more (by simp only[gk.size];omega) (Q8 _)
end
theorem xG {E:fW} {i:Int} (hE:gP E)(hs:iu E s)(hm:iB E m)(hd:0<=m.depth/\m.depth<=1000)(hi:0<=i/\i<8)(hline:0<=line/\line<E.p.length)(hchain:chain.length<=3/\∀ c∈chain,0<=c/\c<E.p.length) :
  fZ E m (mW E m s i line chain) (-1) n0 1:=po (dd:=-1) hm hd hline hchain (.inr (.inl (Gb hE hs hd hi)))
theorem BK {E:fW} (hm:iB E m)(hd:0<=m.depth/\m.depth<=1000)(hv:0<=v/\v<=999)(hline:0<=line/\line<E.p.length)(hchain:chain.length<=3/\∀ c∈chain,0<=c/\c<E.p.length) :
  fZ E m (lZ E m v line chain) 1 n0 1:=po hm hd hline hchain (.inl ⟨rfl,hv⟩)
theorem DV {E:fW}{x:fG}{k:Int}{chain:Q Int}{n0:Nat}(hE:gP E)(hs:iu E x)(hline:0<=k/\k<E.p.length)(hchain:chain.length<=3/\∀ c∈chain,0<=c/\c<E.p.length):∀(n:Nat)(m:fS),iB E m->(n:Int)<=m.depth->m.depth<=1000->n<=8->fZ E m (qV E x k chain n m) (-(n:Int)) n0 n
 | 0,m,hm,_,_,_=>fZ.refl hm
 | n+1,m,hm,h0,h1,h8=>by
  have g1:fZ E m (mW E m x n k chain) (-1) n0 1:=xG hE hs hm ⟨by omega,h1⟩ ⟨by omega,by omega⟩ hline hchain;have g2:=DV hE hs hline hchain (n0:=n0) n _ g1.ok (by rw[g1.depth];omega) (by rw[g1.depth];omega) (by omega);exact((g1.trans g2).dep (by omega)).more (by omega) (Q8 _)
theorem Ei {E:fW}{x:fG}{k:Int}{chain:Q Int}{n0:Nat}(hE:gP E)(hs:iu E x)(hline:0<=k/\k<E.p.length)(hchain:chain.length<=3/\∀ c∈chain,0<=c/\c<E.p.length):∀(n i:Nat)(m:fS),iB E m->0<=m.depth->m.depth<=999->i+n<=8->fZ E m (sS E x k chain n i m) 0 n0 (2*n)
 | 0,i,m,hm,_,_,_=>fZ.refl hm
 | n+1,i,m,hm,h0,h1,h8=>by
  have g0:fZ E m (lZ E m 0 k chain) 1 n0 1:=BK hm ⟨h0,by omega⟩ ⟨by omega,by omega⟩ hline hchain;have g1:fZ E (lZ E m 0 k chain) (mW E (lZ E m 0 k chain) x i k chain) (-1) n0 1:=xG hE hs g0.ok ⟨by rw[g0.depth];omega,by rw[g0.depth];omega⟩ ⟨by omega,by omega⟩ hline hchain;have g2:=Ei hE hs hline hchain (n0:=n0) n (i+1) _ g1.ok (by rw[g1.depth,g0.depth];omega) (by rw[g1.depth,g0.depth];omega) (by omega);exact(((g0.trans g1).trans g2).dep (by omega)).more (by omega) (Q8 _)
theorem Kz (out:Q N)(x:fv):out.length<=(qU out x).length:=by
 unfold qU;split
 ·simp
 ·exact Q8 _
theorem DN:∀(l:Q fv)(n:Nat)(out:Q N),out.length<=(oF l n out).length
 | _,0,out=>by cases ‹Q fv› <;> exact Q8 _
 | [],_+1,out=>Q8 _
 | x::r,n+1,out=>Rj (Kz out x) (DN r n _)
theorem J0 (he:gz p i e)(hx:p[i]?=Z x)(h0:x.Kind=0):x.fM.length<=(zq p i).length:=by
 unfold zq;rw[he.iS,QZ (by omega)];simp only[Ra,hx,h0,Tk];exact DN _ _ _
def isFun (p:Q fv)(g:Int):Prop:=∃ i:Nat,g=(i:Int)/\∃ x,p[i]?=Z x/\x.Kind=0
theorem isFun.parts {E:fW} (hE:gP E){g:Int}(h:isFun E.p g):((zZ E.p g).length<=4/\(zZ E.p g).length<=(zq E.p g).length/\(zq E.p g).length<=8):=by
 obtain⟨i,rfl,x,hx,h0⟩:=h;obtain⟨e,h1,h2,h3⟩:=hE.pc.body i x hx h0;rw[vG hx];exact⟨hE.pc.args i x hx,J0 h1 hx h0,h2⟩
theorem AT {E:fW} (hE:gP E)(hs:iu E s)(hg:isFun E.p g)(hk:0<=k/\k<E.p.length)(hc:s.chain.length<=2):iu E (kD E g k s):=by
 have hp:=hg.parts hE;obtain⟨i,rfl,x,hx,h0⟩:=hg;obtain⟨e,h1,h2,h3⟩:=hE.pc.body i x hx h0;have hf:=hs.first;have hl:=hs.locals.2;refine⟨⟨i,e,x,rfl,hx,h0,h1,h3⟩,⟨rfl,h2⟩,?_,?_,fun h=>by cases h⟩
 ·unfold kD oV
  simp only[QR,Rc,Ru];split
  ·rename_i ho
   obtain⟨h4,h5,h6⟩:=hs.outer ho;have:=hE.args;rw[h4];simp only[Ru];omega
  ·omega
 ·unfold kD
  simp only[QR,Rc,Ru,Q7,QN];refine⟨by omega,fun c hc'=>?_⟩;rcases hc' with h | rfl
  ·exact hs.chain.2 c h
  ·exact hk
theorem Ff {E:fW} (hE:gP E)(hs:iu E s)(hg:isFun E.p g)(hk:0<=k/\k<E.p.length)(hk0:kM E.p k≠0)(hc:s.chain.length<=2)(hm:iB E m)(h0:((zZ E.p g).length:Int)<=m.depth)(h1:m.depth<=900) :
  fZ E m (qF E g k s m) (-((zZ E.p g).length:Int)) n0 21:=by
 have hp:=hg.parts hE;have hx:=AT hE hs hg hk hc;have hf:=hx.first
 have a1:0<=oV E s/\oV E s<=24:=by
  have h2:=hf;unfold kD at h2;simp only[QR,Rc,Ru] at h2;omega
 have a3:(kD E g k s).locals.length<=8:=hx.locals.2;have a0:(kD E g k s).locals=zq E.p g:=rfl;unfold qF;simp only;have g0:fZ E m (m.ke (max m.gL (oV E s+(kD E g k s).locals.length))) 0 n0 0:=⟨⟨hm.hJ,hm.pos⟩,ie.refl _,by simp[fS.ke],by simp only[fS.ke];omega,by simp only[fS.ke];omega⟩
 have g1:=DV (n0:=n0) hE hx hk hs.chain (zZ E.p g).length _ g0.ok (by rw[g0.depth];omega) (by rw[g0.depth];omega) (by omega);have g2:=Ei (n0:=n0) hE hx hk hs.chain ((kD E g k s).locals.length-(zZ E.p g).length) (zZ E.p g).length _ g1.ok (by rw[g1.depth,g0.depth];omega) (by rw[g1.depth,g0.depth];omega) (by rw[a0];omega);have g3:=(g0.trans g1).trans g2;have a2:=g3.depth;split
 ·have g4:=po (dd:=0) (n0:=n0) g3.ok (code:=15) (arg:=0) (line:=k) (chain:=s.chain) ⟨by omega,by omega⟩ hk hs.chain (.inr (.inr (.inr (.inr (.inl ⟨.inr (.inr ⟨rfl,hk0⟩),by omega,by omega⟩)))))
  rw[Th] at g4;exact((g3.trans g4).dep (by omega)).more (by rw[a0];omega) (Q8 _)
 ·exact(g3.dep (by omega)).more (by rw[a0];omega) (Q8 _)
structure kX (E:fW)(L:je):Prop where
 mo:iB E L.m
 leaves:∀ j∈L.leaves,gU L.m.items j
 fR:∀ e∈L.fR,gU L.m.items e.2
 fN:∀ h∈L.fN,0<=h/\h<=L.m.items.length
theorem kX.up {E:fW} {L:je} (h:kX E L)(hm:iB E m)(hk:ie L.m.items m.items):kX E (L.wm m):=
 ⟨hm,fun j hj=>hk.jump j (h.leaves j hj),fun e he=>hk.jump _ (h.fR e he),fun a ha=>by have:=h.fN a ha;have:=hk.len;simp only[je.wm];omega⟩
theorem BW {E:fW} {es:Q (Int × Int)} {tgt:Int} (hm:iB E m)(he:∀ e∈es,gU m.items e.2):fZ E m (lD m es tgt) 0 n0 0:=by
 obtain⟨h1,h2⟩:=s9 es m.items tgt m.items.length;exact⟨⟨CA es m.items tgt _ hm.hJ he (by omega) (by omega),by have:=hm.pos;simp only[lD,fS.iK,h2];exact this⟩,h1,by simp[lD,fS.iK],by simp only[lD,fS.iK,h2];omega,by simp only[lD,fS.iK];omega⟩
theorem yL (E:fW)(k:Nat)(chain:Q Int)(fN:Q Int):∀(n i:Nat)(m:fS),(ns E k chain fN n i m=m/\∀ j,i<=j->j<i+n->¬ (gz E.p j k/\kM E.p j=5))∨∃ j,i<=j/\j<i+n/\gz E.p j k/\kM E.p j=5/\ns E k chain fN n i m=zB E m 10 (fN.getD j 0) k chain
 | 0,i,m=>.inl ⟨rfl,fun j a b=>by omega⟩
 | n+1,i,m=>by
  unfold ns;by_cases h:iN E.p i=k/\(E.p[i]?.map fv.Kind)=Z 5
  ·rw[Q5 h]
   have he:=LU h.1;have a0:kM E.p i=5:=by unfold kM;rw[Ra,h.2];rfl
   rcases yL E k chain fN n (i+1) (zB E m 10 (fN.getD i 0) k chain) with⟨h1,_⟩ | ⟨j,a,b,c,_⟩
   ·exact .inr ⟨i,Q8 _,by omega,he,a0,h1⟩
   ·have:=he.same c;omega
  ·rw[QZ h]
   rcases yL E k chain fN n (i+1) m with⟨h1,h2⟩ | ⟨j,a,b,c⟩
   ·refine .inl ⟨h1,fun j a b hc=>?_⟩
    by_cases hj:j=i
    ·subst hj
     refine h ⟨hc.1.iS,?_⟩;have h5:=hc.2;unfold kM at h5;rw[Ra] at h5;cases hx:E.p[j]?.map fv.Kind with
     | none=>rw[hx] at h5;simp at h5
     | some v=>rw[hx] at h5;simp only[Sq] at h5;rw[h5]
    ·exact h2 j (by omega) (by omega) hc
   ·exact .inr ⟨j,by omega,by omega,c⟩
theorem yE (p:Q fv)(k item:Int):∀(n i:Nat),∀ e∈nM p k item n i,e.2=item
 | 0,_,e,h=>by cases h
 | n+1,i,e,h=>by
  unfold nM at h;split at h
  ·rcases Rp.1 h with rfl | h
   ·rfl
   ·exact yE p k item n (i+1) e h
  ·exact yE p k item n (i+1) e h
theorem Et {E:fW} {last:Bool} {L:je} (hE:gP E)(hs:iu E s)(hL:kX E L)(hd:0<=L.m.depth/\L.m.depth<=1000)(hk:0<=k/\k<E.p.length):kX E (kN E s k last L)/\fZ E L.m (kN E s k last L).m (-1) n0 1/\(kN E s k last L).fR=L.fR/\(kN E s k last L).fN=L.fN:=by
 have ha:=hE.args;have hw:=hE.words;unfold kN;split
 ·split
  ·have g:fZ E L.m ((zB E L.m 14 E.args k s.chain).gw (L.m.depth + -1)) (-1) n0 1:=po hL.mo hd hk hs.chain (.inr (.inr (.inr (.inr (.inl ⟨.inr (.inl rfl),by omega,by omega⟩)))))
   exact⟨hL.up g.ok g.keeps,g,rfl,rfl⟩
  ·have g:fZ E L.m ((zB E L.m 16 (E.args+16*E.words) k s.chain).gw (L.m.depth + -1)) (-1) n0 1:=po hL.mo hd hk hs.chain (.inr (.inr (.inr (.inr (.inr ⟨rfl,by omega,by omega⟩)))))
   exact⟨hL.up g.ok g.keeps,g,rfl,rfl⟩
 ·split
  ·have g:fZ E L.m (L.m.gw (L.m.depth-1)) (-1) n0 1:=⟨⟨hL.mo.hJ,hL.mo.pos⟩,ie.refl _,rfl,by simp only[fS.gw];omega,by simp only[fS.gw];omega⟩
   exact⟨hL.up g.ok g.keeps,g,rfl,rfl⟩
  ·have g:fZ E L.m ((zB E L.m 10 0 k s.chain).gw (L.m.depth + -1)) (-1) n0 1:=po hL.mo hd hk hs.chain (.inr (.inr (.inr (.inl ⟨.inl rfl,by omega,by omega⟩))))
   have g2:=hL.up g.ok g.keeps;refine⟨⟨g2.mo,fun j hj=>?_,g2.fR,g2.fN⟩,g,rfl,rfl⟩;rcases Q7.1 hj with h | h
   ·exact g2.leaves j h
   ·rw[QN.1 h]
    exact zb E L.m 10 0 k s.chain (.inl rfl)
theorem xI {k:Nat} (h:p[k]?=Z x):kM p (k:Int)=x.Kind:=by
 unfold kM;rw[Ra,h];rfl
theorem Mx {l:Q Int} (h:∀ a∈l,0<=a/\a<=(n:Int))(hv:0<=v/\v<=(n:Int)):∀ a∈l.set i v,0<=a/\a<=(n:Int):=fun a ha=>by
 rcases Tz ha with h1 | rfl
 ·exact h a h1
 ·exact hv
theorem Nm {l:Q Int} (j:Nat)(h:∀ a∈l,0<=a/\a<=(n:Int)):0<=l.getD j 0/\l.getD j 0<=(n:Int):=by
 rw[RG];cases hx:l[j]? with
 | none=>simp
 | some a=>exact h a (Q9 hx)
theorem Ck (h:0<=k/\k<=7)(h0:k≠0)(h4:k≠4)(h7:k≠7):qX k=M:=by
 unfold qX;simp only[Uu,Rg];omega
theorem EY {E:fW} {rep:Int->fS->fS} {k:Nat} {L:je} (hE:gP E)(hs:iu E s)(hr:sT E rep fs d)(hL:kX E L)(hf:s.f=(i:Int))(he:gz E.p i e)(h1:i<k)(h2:k<=e)(hx:E.p[k]?=Z x)
  (hd:0<=L.m.depth/\L.m.depth<=jN (d+1)):kX E (lF E rep fs s e k x L)/\fZ E L.m (lF E rep fs s e k x L).m 0 (200+iO d) 24:=by
 have ak:=(QM.1 hx).1;have hk:0<=(k:Int)/\(k:Int)<E.p.length:=⟨by omega,by omega⟩
 have af:jN (d+1)=jN d-30:=by unfold jN;omega
 have ab:jN d<=900:=by unfold jN;omega
 have g0:fZ E L.m (lD L.m L.fR k) 0 (200+iO d) 0:=BW hL.mo hL.fR;have a4:=hL.up g0.ok g0.keeps;have a1:(lD L.m L.fR k).items.length=L.m.items.length:=(s9 _ _ _ _).2;have ac:(lD L.m L.fR k).depth=L.m.depth:=rfl;have ae:(lD L.m L.fR k).gL=L.m.gL:=rfl;unfold lF;simp only;generalize lD L.m L.fR (k:Int)=m0 at g0 a4 a1 ac ae |-;by_cases k4:x.Kind=4
 ·rw[Q5 k4]
  have g1:=po (dd:=0) (n0:=200+iO d) g0.ok (code:=10) (arg:=0) (line:=k) (chain:=s.chain) ⟨by rw[g0.depth];omega,by rw[g0.depth];omega⟩ hk hs.chain (.inr (.inr (.inr (.inl ⟨.inl rfl,by omega,by omega⟩))));rw[Th] at g1;have a2:=a4.up g1.ok g1.keeps
  have a6:∀ z∈L.fR++nM E.p k L.m.items.length (k-s.f.toNat) s.f.toNat,gU (zB E m0 10 0 k s.chain).items z.2:=fun z hz=>by
   rcases Q7.1 hz with h | h
   ·exact a2.fR z h
   ·rw[yE _ _ _ _ _ z h,<-a1]
    exact zb E _ 10 0 k s.chain (.inl rfl)
  have g2:=BW (tgt:=-(k:Int)) (n0:=200+iO d) g1.ok a6;have a3:=a2.up g2.ok g2.keeps;exact⟨⟨a3.mo,a3.leaves,fun z hz=>g2.keeps.jump _ (a6 z hz),a3.fN⟩,(((g0.trans g1).trans g2).dep (by omega)).more (by omega) (Q8 _)⟩
 ·rw[QZ k4]
  by_cases k7:x.Kind=7
  ·rw[Q5 k7]
   by_cases aa:k=e
   ·rw[Q5 aa]
    have g1:fZ E m0 (lZ E m0 0 k s.chain) 1 (200+iO d) 1:=BK g0.ok ⟨by rw[g0.depth];omega,by rw[g0.depth];omega⟩ ⟨by omega,by omega⟩ hk hs.chain;have a2:=a4.up g1.ok g1.keeps;obtain⟨w1,w2,_,_⟩:=Et (last:=M) (n0:=200+iO d) hE hs a2 ⟨by have:=g1.depth;simp only[je.wm];omega,by have:=g1.depth;simp only[je.wm];omega⟩ hk;exact⟨w1,(((g0.trans g1).trans w2).dep (by omega)).more (by omega) (Q8 _)⟩
   ·rw[QZ aa]
    rcases yL E k s.chain L.fN (k-(s.f.toNat+1)) (s.f.toNat+1) m0 with⟨w,_⟩ | ⟨j,_,_,_,_,w⟩
    ·rw[w]
     exact⟨a4,g0.more (by omega) (Q8 _)⟩
    ·rw[w]
     have hh:0<=L.fN.getD j 0/\L.fN.getD j 0<=(m0.items.length:Int):=Nm j a4.fN;have g1:=po (dd:=0) (n0:=200+iO d) g0.ok (code:=10) (arg:=L.fN.getD j 0) (line:=k) (chain:=s.chain) ⟨by rw[g0.depth];omega,by rw[g0.depth];omega⟩ hk hs.chain (.inr (.inr (.inr (.inl ⟨.inl rfl,hh.1,by omega⟩))));rw[Th] at g1;exact⟨a4.up g1.ok g1.keeps,((g0.trans g1).dep (by omega)).more (by omega) (Q8 _)⟩
  ·rw[QZ k7]
   have aa:k≠e:=fun hh=>by
    subst hh;obtain⟨y,hy,h7⟩:=he.last;rw[hx] at hy;injection hy with hy
    exact k7 (by rw[hy];exact h7)
   obtain⟨i',e',z,w1,w2,w3,w4,w5⟩:=hs.qN;have ah:i'=i:=by rw[hf] at w1;omega
   subst ah;have ag:=w4.uniq he;subst ag;obtain⟨n1,n2,n3,n4⟩:=w5 k x h1 (by omega) hx;have a5:=zu.1 (hE.pc.kind k x hx);have a9:qX x.Kind=M:=Ck a5 n1 k4 k7;obtain⟨ex,e1,e2,e3⟩:=hE.pc.expr k x hx a9;have ai:iB E m0.begun:=⟨g0.ok.hJ,g0.ok.pos⟩
   have g1:fZ E m0.begun (sW E rep fs s k x.Expr m0.begun) 1 (200+iO d) ex.size:=by
    rw[e2,AA e1];rw[e2] at n2;refine Ex.iI hE hs hr hk ex _ e1 ?_ ai (by simp only[fS.begun];omega) ?_
    ·rw[hs.locals.1,hf]
     exact n2
    ·have:=hd.2
     simp only[fS.begun];omega
   have a0:fZ E L.m (sW E rep fs s k x.Expr m0.begun) 1 (200+iO d) 20:=
    ⟨g1.ok,g0.keeps.trans g1.keeps,by rw[g1.depth,<-ac];rfl,by have h8:=g1.cnt;rw[show m0.begun.items.length=L.m.items.length from a1] at h8;omega,by have h9:=g1.gL;rw[show m0.begun.gL=L.m.gL from ae] at h9;exact h9⟩
   generalize sW E rep fs s k x.Expr m0.begun=m1 at g1 a0;have a7:=hL.up a0.ok a0.keeps;have a2:kX E { m:=m1,leaves:=L.leaves,fN:=L.fN.set k L.m.items.length,fR:=L.fR }:=⟨a7.mo,a7.leaves,a7.fR,Mx a7.fN ⟨by omega,by have:=a0.keeps.len;simp only;omega⟩⟩
   have a8:0<=m1.depth/\m1.depth<=1000:=by rw[a0.depth];omega
   by_cases k1:x.Kind=1
   ·rw[Q5 k1]
    have ad:=n4 k1;rw[<-hf,<-hs.locals.1] at ad;have aj:=yh s.locals x.Name 0 ad;have al:=hs.locals.2;have g2:fZ E m1 (mW E m1 s (qH s.locals x.Name 0) k s.chain) (-1) (200+iO d) 1:=xG hE hs a0.ok a8 ⟨by omega,by omega⟩ hk hs.chain;exact⟨a2.up g2.ok g2.keeps,((a0.trans g2).dep (by omega)).more (by omega) (Q8 _)⟩
   ·rw[QZ k1]
    by_cases k2:x.Kind=2
    ·rw[Q5 k2]
     have g2:fZ E m1 ((zB E m1 17 0 k s.chain).gw (m1.depth + -1)) (-1) (200+iO d) 1:=po a0.ok a8 hk hs.chain (.inr (.inr (.inl ⟨.inr rfl,rfl⟩)));exact⟨a2.up g2.ok g2.keeps,((a0.trans g2).dep (by omega)).more (by omega) (Q8 _)⟩
    ·rw[QZ k2]
     by_cases k6:x.Kind=6
     ·rw[Q5 k6]
      obtain⟨w1,w2,_,_⟩:=Et (last:=I) (n0:=200+iO d) hE hs a2 a8 hk;exact⟨w1,((a0.trans w2).dep (by omega)).more (by omega) (Q8 _)⟩
     ·rw[QZ k6]
      have g2:fZ E m1 ((zB E m1 11 0 k s.chain).gw (m1.depth + -1)) (-1) (200+iO d) 1:=po a0.ok a8 hk hs.chain (.inr (.inr (.inr (.inl ⟨.inr rfl,by omega,by omega⟩))));have a3:=a2.up g2.ok g2.keeps;refine⟨⟨a3.mo,a3.leaves,fun z hz=>?_,a3.fN⟩,((a0.trans g2).dep (by omega)).more (by omega) (Q8 _)⟩;rcases Q7.1 hz with h | h
      ·exact a3.fR z h
      ·rw[QN.1 h]
       exact zb E m1 11 0 k s.chain (.inr rfl)
theorem JB {E:fW} {rep:Int->Int->fS->fS} (hE:gP E)(hs:iu E s)(hr:∀ k:Nat,kM E.p k≠0->k<E.p.length->sT E (rep k) fs d)(hf:s.f=(i:Int))(he:gz E.p i e) :
  ∀(n k:Nat) (L:je),kX E L->i<k->k+n=e+1->0<=L.m.depth->L.m.depth<=jN (d+1)->kX E (pQ E rep fs s e (E.p.drop k) n k L)/\fZ E L.m (pQ E rep fs s e (E.p.drop k) n k L).m 0 (200+iO d) (24*n):=by
 intro n;induction n with
 | zero=>
  intro k L hL _ _ _ _;have:pQ E rep fs s e (E.p.drop k) 0 k L=L:=by cases E.p.drop k <;> rfl
  rw[this];exact⟨hL,fZ.refl hL.mo⟩
 | succ n ih=>
  intro k L hL a1 a5 h0 h1;have a0:k<E.p.length:=by have:=he.len;omega
  have hx:E.p[k]?=Z E.p[k]:=QW a0;rw[Q6 a0]
  have a4:kM E.p k≠0:=by
   rw[xI hx];intro h;by_cases hke:k=e
   ·subst hke
    obtain⟨y,hy,h7⟩:=he.last;rw[hx] at hy;injection hy with hy
    rw[hy] at h;omega
   ·obtain⟨i',e',z,w1,w2,w3,w4,w5⟩:=hs.qN
    have a3:i'=i:=by rw[hf] at w1;omega
    subst a3;have a2:=w4.uniq he;subst a2;exact(w5 k _ a1 (by omega) hx).1 h
  obtain⟨g1,g2⟩:=EY hE hs (hr k a4 a0) hL hf he a1 (by omega) hx ⟨h0,h1⟩;obtain⟨g3,g4⟩:=ih (k+1) _ g1 (by omega) (by omega) (by rw[g2.depth];omega) (by rw[g2.depth];omega);exact⟨g3,((g2.trans g4).dep (by omega)).more (by omega) (Q8 _)⟩
def Df (E:fW)(lines:Q Int->fG->fS->fS × Q Int)(d:Nat):Prop:=∀(fs:Q Int)(s:fG)(m:fS)(i e:Nat),iu E s->s.leaves = []->fs.length=s.chain.length+1->s.chain.length+d=3->iB E m->s.f=(i:Int)->gz E.p i e->0<=m.depth->m.depth<=jN (d+1)->
 fZ E m (lines fs s m).1 0 (200+iO d) (24*(e-i))/\∀ j∈(lines fs s m).2,gU (lines fs s m).1.items j
theorem DO {E:fW} {lines:Q Int->fG->fS->fS × Q Int} {k:Nat} (hE:gP E)(hs:iu E s)(hl:Df E lines d)(hfs:fs.length=s.chain.length+1)(hd:s.chain.length+(d+1)=3)(hk:k<E.p.length)(hk0:kM E.p k≠0):sT E (fun g m=>jL E lines fs k s g m) fs (d+1):=by
 intro g m hm a5 hg a0 h0 h1;have a1:s.chain.length<=2:=by omega
 have a3:0<=(k:Int)/\(k:Int)<E.p.length:=⟨by omega,by omega⟩
 have a4:jN (d+1)<=900:=by unfold jN;omega
 have g1:=Ff (n0:=200) hE hs hg a3 hk0 a1 hm h0 (by omega);have hx:=AT hE hs hg a3 a1;have a7:=vE a0;obtain⟨i,rfl,x,a9,a8⟩:=hg;obtain⟨e,he,_,_⟩:=hE.pc.body i x a9 a8;have a6:=a7.2.1;rw[he.iS] at a6;have a2:(kD E i k s).chain.length=s.chain.length+1:=by unfold kD;simp
 obtain⟨g2,g3⟩:=hl (fs++[(i:Int)]) (kD E i k s) (qF E i k s m) i e hx rfl (by rw[a2];simp[hfs]) (by rw[a2];omega) g1.ok rfl he (by rw[g1.depth];omega) (by rw[g1.depth];omega);obtain⟨g4,g5⟩:=yJ (lines (fs++[(i:Int)]) (kD E i k s) (qF E i k s m)).2 (lines (fs++[(i:Int)]) (kD E i k s) (qF E i k s m)).1.items (lines (fs++[(i:Int)]) (kD E i k s) (qF E i k s m)).1.items.length;unfold jL;simp only;refine⟨⟨?_,?_⟩,?_,?_,?_,?_⟩
 ·exact Fm _ _ _ g2.ok.hJ g3 (by omega) (by omega)
 ·simp only[fS.gw,fS.iK,g5];exact g2.ok.pos
 ·exact(g1.keeps.trans g2.keeps).trans g4
 ·simp only[fS.gw];rw[g1.depth];omega
 ·simp only[fS.gw,fS.iK,g5]
  have h5:=g1.cnt;have h6:=g2.cnt;have h7:24*(e-i)<=216:=by omega
  have h8:iO (d+1)=iO d+250:=by unfold iO;omega
  omega
 ·simp only[fS.gw,fS.iK]
  have h5:=g1.gL;have h6:=g2.gL;omega
theorem F4 {E:fW} (hE:gP E){d:Nat}(hrep:∀(fs:Q Int)(s:fG)(k:Nat),iu E s->fs.length=s.chain.length+1->s.chain.length+d=3->k<E.p.length->kM E.p k≠0->sT E (fun g m=>jL E (iX E d) fs k s g m) fs d):Df E (iX E (d+1)) d:=by
 intro fs s m i e hs a3 a2 a4 hm hf he h0 h1;have a0:kX E ⟨m,s.leaves,Ro E.p.length 0,[]⟩:=⟨hm,fun j hj=>(by simp only[a3] at hj;cases hj),fun z hz=>(by cases hz),fun a ha=>(by rw[TF ha];simp)⟩
 have a5:=he.lt;obtain⟨g1,g2⟩:=JB (rep:=fun k g m=>jL E (iX E d) fs k s g m) hE hs (fun k hk0 hk=>hrep fs s k hs a2 a4 hk hk0) hf he (e-i) (i+1) ⟨m,s.leaves,Ro E.p.length 0,[]⟩ a0 (by omega) (by omega) h0 h1
 have a1:iX E (d+1) fs s m=((pQ E (fun k g m=>jL E (iX E d) fs k s g m) fs s e (E.p.drop (i+1)) (e-i) (i+1) ⟨m,s.leaves,Ro E.p.length 0,[]⟩).m,(pQ E (fun k g m=>jL E (iX E d) fs k s g m) fs s e (E.p.drop (i+1)) (e-i) (i+1) ⟨m,s.leaves,Ro E.p.length 0,[]⟩).leaves):=by
  show vT E (fun fs s k g m=>jL E (iX E d) fs k s g m) fs s m=_;unfold vT;simp only[hf,he.iS,Ra]
 rw[a1];exact⟨g2,g1.leaves⟩
theorem Cq {E:fW} (hE:gP E):∀ d:Nat,Df E (iX E (d+1)) d:=by
 intro d;induction d with
 | zero=>
  refine F4 hE (fun fs s k hs hfs hd hk hk0=>?_);intro g m _ _ _ a0;have h1:=(vE a0).1;have h2:=hE.inl.2;omega
 | succ d ih=>exact F4 hE (fun fs s k hs hfs hd hk hk0=>DO hE hs ih hfs hd hk hk0)
theorem BP:∀(l:Q fv)(k:Nat),∀ g∈lf l k,∃ i:Nat,g=((k+i:Nat):Int)/\∃ x,l[i]?=Z x/\x.Kind=0
 | [],k,g,h=>by cases h
 | y::r,k,g,h=>by
  unfold lf at h;by_cases hy:y.Kind=0
  ·rw[Q5 hy] at h
   rcases Rp.1 h with rfl | h
   ·exact⟨0,rfl,y,rfl,hy⟩
   ·obtain⟨i,h1,x,h2,h3⟩:=BP r (k+1) g h
    exact⟨i+1,by rw[h1];congr 1;omega,x,by simpa using h2,h3⟩
  ·rw[QZ hy] at h
   obtain⟨i,h1,x,h2,h3⟩:=BP r (k+1) g h;exact⟨i+1,by rw[h1];congr 1;omega,x,by simpa using h2,h3⟩
theorem vH (h:(zp p)[f]?=Z g):isFun p g:=by
 obtain⟨i,h1,x,h2,h3⟩:=BP p 0 g (Q9 h);exact⟨i,by rw[h1];simp,x,h2,h3⟩
theorem uA {g:Prop} (f:g:=by
  refine⟨⟨i,e,x,rfl,by rw[hEp];exact hx,h0,by rw[hEp];exact he,by rw[hEp];exact hbody⟩,⟨by rw[hEp],h8⟩,⟨SK _,by simp⟩,⟨by simp,fun c hc=>(by cases hc)⟩,fun _=>⟨rfl,rfl,by rw[hEa];simp only;omega⟩⟩):g:=f
theorem uW {g:Prop} (f:g:=by
  obtain⟨i,rfl,x,hx,h0⟩:=hfun
  have:=hp.args i x hx
  exact⟨hp,zu.1 hb,hw,by rw[vG hx];exact⟨by simp only;omega,by simp only;omega⟩⟩):g:=f
theorem yM {b:fV} {words:Int} (hp:j9 p)(hb:fT b.Inline 0 3=M)(hf:f<(zp p).length)(hw:0<=words/\words<=100) :
  iA p (kQ p b f words).1/\0<(kQ p b f words).1.length/\(kQ p b f words).1.length<=2400/\0<=(kQ p b f words).2/\(kQ p b f words).2<=40:=by
 have hg:(zp p)[f]?=Z (zp p)[f]:=QW hf;have hfun:=vH hg;unfold kQ;rw[hg];simp only[Sq];generalize (zp p)[f]=g at hfun
 have hE:gP ⟨p,b.Inline,ll b f,words,((zZ p g).length:Int)⟩:=by
  exact uW
 have a1:=hfun.parts hE;simp only at a1;obtain⟨i,rfl,x,hx,h0⟩:=hfun;obtain⟨e,he,h8,hbody⟩:=hp.body i x hx h0;generalize hEE:(⟨p,b.Inline,ll b f,words,((zZ p (i:Int)).length:Int)⟩:fW)=E at hE;have hEp:E.p=p:=by rw[<-hEE]
 have hEa:E.args=((zZ p (i:Int)).length:Int):=by rw[<-hEE]
 have a7:=(QM.1 hx).1
 have hs:iu E ⟨i,[],zq p i,0,M,[]⟩:=by
  exact uA
 have hm:iB E ((zB E ⟨[],0,((zq p i).length:Int)-((zZ p (i:Int)).length:Int),I⟩ (if ll b f=M then 13 else 15) words i []).gw words):=by
  refine⟨?_,by simp[zB,fS.gw]⟩;intro j y hy;have a6:=(QM.1 hy).1;simp only[fS.gw,zB,RC,Rc,Ru] at a6;have hj:j=0:=by omega
  subst hj;simp only[fS.gw,zB,RC,RA,Rv] at hy;subst hy;have a2:kM E.p (i:Int)=0:=by rw[hEp,xI hx];exact h0
  simp only[fS.gw,zB,RC,tF,Ru,TS,decide_false,US];have a0:(if ll b f=M then (13:Int) else 15)=13∨(if ll b f=M then (13:Int) else 15)=15:=by split <;> simp
  generalize (if ll b f=M then (13:Int) else 15)=code at a0;refine⟨by simp only;omega,fun h=>by simp only at h;omega,fun h h'=>by simp only at h h';omega,fun h=>by simp only at h;omega,fun h=>by simp only at h;omega,fun _ _=>hw,fun h=>by simp only at h;omega,⟨by simp only;omega,by rw[hEp];simp only;omega⟩,⟨by simp,fun c hc=>(by cases hc)⟩,⟨by simp,by simp,fun h=>(by cases h)⟩,⟨fun _=>?_,fun _=>rfl⟩⟩;rcases a0 with h | h
  ·exact .inl h
  ·exact .inr ⟨h,a2⟩
 have a3:((zB E ⟨[],0,((zq p i).length:Int)-((zZ p (i:Int)).length:Int),I⟩ (if ll b f=M then 13 else 15) words i []).gw words).items.length=1:=by simp[zB,fS.gw]
 have a4:((zB E ⟨[],0,((zq p i).length:Int)-((zZ p (i:Int)).length:Int),I⟩ (if ll b f=M then 13 else 15) words i []).gw words).gL=((zq p i).length:Int)-((zZ p (i:Int)).length:Int):=rfl;have a5:((zB E ⟨[],0,((zq p i).length:Int)-((zZ p (i:Int)).length:Int),I⟩ (if ll b f=M then 13 else 15) words i []).gw words).depth=words:=rfl;generalize (zB E ⟨[],0,((zq p i).length:Int)-((zZ p (i:Int)).length:Int),I⟩ (if ll b f=M then 13 else 15) words i []).gw words=QE at hm a3 a4 a5 |-;have hL:=(Cq hE 3) [(i:Int)] ⟨i,[],zq p i,0,M,[]⟩ QE i e hs rfl rfl rfl hm rfl (by rw[hEp];exact he) (by omega) (by have:=hw.2;simp only[jN];omega);obtain⟨h1,_⟩:=hL;have h2:=h1.cnt;have h3:=h1.gL;have h5:=he.len;have h6:=hp.len;have h7:=h1.ok.hJ;have h9:=h1.ok.pos;rw[hEp] at h7;rw[show 3+1=4 from rfl] at h2 h3 h7 h9;generalize iX E 4 [(i:Int)] ⟨i,[],zq p i,0,M,[]⟩ QE=R at h2 h3 h7 h9 |-;simp only[iO] at h2;exact⟨h7,h9,by omega,by omega,by omega⟩
theorem BF {b:fV} (hp:zv p=M)(hb:jM b=M)(hf:f<(zp p).length) :
  iA p (ki p b f)/\0<(ki p b f).length/\(ki p b f).length<=2400:=by
 have hF:=qj hp;unfold jM at hb;rw[Q4] at hb
 have a1:∀ q:Q fv,j9 q->f<(zp q).length->gR q p->iA p (kQ q b f (kQ q b f 0).2).1/\0<(kQ q b f (kQ q b f 0).2).1.length/\(kQ q b f (kQ q b f 0).2).1.length<=2400:=by
  intro q hq a0 hk;obtain⟨_,_,_,h4,h5⟩:=yM (words:=0) hq hb.2 a0 ⟨by omega,by omega⟩;obtain⟨g1,g2,g3,_,_⟩:=yM (words:=(kQ q b f 0).2) hq hb.2 a0 ⟨h4,by omega⟩;refine⟨fun j x hx=>?_,g2,g3⟩;have h:=g1 j x hx;have a3:∀ k,kM q k=kM p k:=fun k=>by unfold kM;rw[hk.at]
  exact⟨h.code,h.lit,h.var,h.op,h.jump,h.small,h.ret,by rw[<-hk.len];exact h.line,by rw[<-hk.len];exact h.chain,h.depth,by rw[<-a3];exact h.first⟩
 unfold ki;simp only;split
 ·have a2:qo p=p.map jU:=by unfold qo;rw[Q5 hp]
  rw[a2];exact a1 _ hF.fold (by rw[xD];exact hf) (Ci p).symm
 ·exact a1 _ hF.c hf rfl
theorem Pv (n:Int):bits .and C n 4294967295=n % 4294967296:=by
 have h0:(Tg 64 4294967295).toNat=2 ^ 32-1:=by decide
 have a0:(Tg 64 n &&& Tg 64 4294967295).toNat=(n % ((2 ^ 64:Nat):Int)).toNat % 2 ^ 32:=by
  rw[BitVec.toNat_and,BitVec.toNat_ofInt,h0,TG]
 show QP C ((Tg 64 n &&& Tg 64 4294967295).toNat:Nat)=n % 4294967296;rw[a0,IntKind.wrap_i64];omega
theorem yj (n:Int) : -2147483648<=jJ n/\jJ n<=2147483647:=by unfold jJ;omega
theorem wU (n:Int):fD (jJ n):=by have:=yj n;exact⟨by omega,by omega⟩
theorem zcU {x:Int} (hx:fD x):Rh prog 197 #[J C x] w fun r w'=>r=.returned (J C (jJ x))/\w'=w:=by
 have h1:Sf (wrap32 (x % 4294967296))=jJ x:=by unfold Sf wrap32 jJ;omega
 have QG:=fh h1;clear h1;go_enter func197,ntmps197;go_wp2_with(fail);rw[QG.out];go_ret;exact⟨rfl,rfl⟩
theorem vk {g:Prop} (f:g:=by
  have QG:=fh h1
  clear h1
  go_enter func181,ntmps181
  go_wp2_with(fail)
  rw[QG.out]
  go_ret
  exact⟨rfl,rfl⟩):g:=f
theorem zcV {x:Int} (hx:fD x):Rh prog 181 #[J C x] w fun r w'=>r=.returned (J C (jJ x))/\w'=w:=by
 have h0:=Pv x;by_cases q:(2147483647:Int)<x % 4294967296
 ·have h1:jJ x=x % 4294967296-4294967296:=by unfold jJ;omega
  have h2:Sf (x % 4294967296-4294967296)=x % 4294967296-4294967296:=by unfold Sf;omega
  exact vk
 ·have h1:jJ x=x % 4294967296:=by unfold jJ;omega
  exact vk
end Go.Proofs.YthgbglbaemelhaaGreat
