/-
  PART.
-/
import Derived.Test.YtiihkapmggfjkaaGreatM12LawMakeDebug
import Derived.Test.YtiihkapmggfjkaaGreatM15LawMakeDebug
set_option linter.unusedVariables false
set_option linter.unusedSimpArgs false
set_option maxRecDepth 100000
set_option maxHeartbeats 8000000
namespace Go.Proofs.YtiihkapmggfjkaaGreat
open Value renaming slice->J,int->F,bool->X
open IntKind renaming i64->I
open Option renaming none->V,some->H
open Obj renaming cells->C
open Bool renaming false->U,true->M
open Go renaming World->N,results->Ly,Value->LA,Calls->LR,Addr->Mh,yielded->NA
open World renaming cell?->Lg,frozen?->LD
open _root_.Int renaming toNat_natCast->Lw
open List renaming length_cons->LJ,getElem?_cons_zero->Mf,length_nil->Mk,nil_append->Mw,replicate->Mz,foldl_cons->NC
open Region renaming wanted->MI,ready->MK,Mode->Nz,noSelect->ND,free->Oq
open UInt8 renaming ofNat->NJ
open Tryz
open Go.RowKit
variable {Ai As:K Mh}{L S Si Ss:Q Nat}{W W' w:N}{a b m m':fW}{chain fs:Q Int}{ci cs d e f i j n n0:Nat}{code g k line v:Int}{l:Q fS}{o:Oper}{p:Q fG}{rows:Q (Q LA)}{s:fL}{t:gu}{x:fG}
def iP (d:Nat):Int:=900-30*(d:Int)
def iE (d:Nat):Nat:=250*d
structure ni (p:Q fG)(n j:Nat)(x:fS):Prop where
 code:0<=x.Op.Code/\x.Op.Code<=17
 lit:x.Op.Code=0->0<=x.Op.Arg/\x.Op.Arg<=999
 var:1<=x.Op.Code->x.Op.Code<=4->-2000<=x.Op.Arg/\x.Op.Arg<=2000
 op:(5<=x.Op.Code/\x.Op.Code<=9)∨x.Op.Code=17->x.Op.Arg=0
 jump:x.Op.Code=10∨x.Op.Code=11->0<=x.Op.Arg/\x.Op.Arg<=n
 small:12<=x.Op.Code->x.Op.Code<=15->0<=x.Op.Arg/\x.Op.Arg<=100
 ret:x.Op.Code=16->0<=x.Op.Arg/\x.Op.Arg<=2000
 line:0<=x.fN/\x.fN<p.length
 chain:x.fH.length<=3/\∀ c∈x.fH,0<=c/\c<p.length
 depth:0<=x.fK/\x.fK<=1000/\(x.fI=M->x.fK=0)
 first:j=0↔x.Op.Code=13∨(x.Op.Code=15/\zG p x.fN=0)
def iJ (p:Q fG)(l:Q fS):Prop:=∀(j:Nat)(x:fS),l[j]?=H x->ni p l.length j x
theorem ni.up {m:Nat} {x:fS} (h:ni p n j x)(hn:n<=m):ni p m j x:=
 ⟨h.code,h.lit,h.var,h.op,fun hc=>by have:=h.jump hc;omega,h.small,h.ret,h.line,h.chain,h.depth,h.first⟩
theorem iJ.snoc {x:fS} (h:iJ p l)(hx:ni p (l.length+1) l.length x):iJ p (l++[x]):=by
 intro j y hy;rw[Lj];by_cases hj:j<l.length
 ·rw[Md hj] at hy
  exact(h j y hy).up (by simp)
 ·have a0:=(Lh.1 hy).1
  simp only[Lj,LJ,Mk] at a0;have:j=l.length:=by omega
  subst this;rw[LV (Lz _),Mq] at hy;simp only[Mf,Mg] at hy;subst hy;exact hx
theorem qm (l:Q fS)(j:Nat)(v:Int):(zL l j v).length=l.length:=by
 unfold zL;cases l[j]? with
 | none=>rfl
 | some x=>simp
theorem yG {y:fS} (h:(zL l j v)[i]?=H y):(i≠j/\l[i]?=H y)∨(i=j/\∃ x,l[j]?=H x/\y = { x with Op:=⟨x.Op.Code,v⟩ }):=by
 unfold zL at h;cases hx:l[j]? with
 | none=>
  rw[hx] at h;refine .inl ⟨fun hh=>?_,h⟩;subst hh;simp only at h;rw[hx] at h;cases h
 | some x=>
  rw[hx] at h;simp only at h;rw[NY] at h;by_cases hij:j=i
  ·subst hij
   have hl:=(Lh.1 hx).1;simp only[Nx,hl,Nx,Mg] at h;exact .inr ⟨rfl,x,rfl,h.symm⟩
  ·rw[Lt hij] at h
   exact .inl ⟨fun hh=>hij hh.symm,h⟩
def ie (l:Q fS)(j:Int):Prop:=∃(i:Nat)(x:fS),j=(i:Int)/\l[i]?=H x/\(x.Op.Code=10∨x.Op.Code=11)
theorem Da {j:Int} (h:iJ p l)(hj:ie l j)(h0:0<=v)(hv:v<=l.length):iJ p (zL l j.toNat v):=by
 obtain⟨a,x,rfl,hx,hc⟩:=hj;rw[Lw];intro i y hy;rw[qm];rcases yG hy with⟨_,h2⟩ | ⟨rfl,x',a0,rfl⟩
 ·exact h i y h2
 ·rw[hx] at a0
  injection a0 with a0
  subst a0;have hi:=h i x hx;exact⟨hi.code,fun h0=>by simp only at h0;omega,fun h1 h2=>by simp only at h1 h2;omega,fun h1=>by simp only at h1;omega,fun _=>⟨h0,hv⟩,fun h1 h2=>by simp only at h1 h2;omega,fun h1=>by simp only at h1;omega,hi.line,hi.chain,hi.depth,hi.first⟩
theorem yd {j:Int} (h:ie l j):ie (zL l i v) j:=by
 obtain⟨a,x,rfl,hx,hc⟩:=h;unfold zL;cases hy:l[i]? with
 | none=>exact⟨a,x,rfl,hx,hc⟩
 | some y=>
  simp only;by_cases hai:i=a
  ·subst hai
   rw[hx] at hy;injection hy with hy
   subst hy;exact⟨i,{ x with Op:=⟨x.Op.Code,v⟩ },rfl,by rw[MP (Lh.1 hx).1],hc⟩
  ·exact⟨a,x,rfl,by rw[M5 hai];exact hx,hc⟩
theorem ie.app {r:Q fS} {j:Int} (h:ie l j):ie (l++r) j:=by
 obtain⟨a,x,rfl,hx,hc⟩:=h;exact⟨a,x,rfl,by rw[Md (Lh.1 hx).1];exact hx,hc⟩
structure iC (l l':Q fS):Prop where
 len:l.length<=l'.length
 jump:∀ j,ie l j->ie l' j
theorem iC.refl (l:Q fS):iC l l:=⟨Lz _,fun _ h=>h⟩
theorem iC.trans {a b c:Q fS} (h:iC a b)(k:iC b c):iC a c:=⟨LO h.len k.len,fun j hj=>k.jump j (h.jump j hj)⟩
theorem iC.app (l r:Q fS):iC l (l++r):=⟨by simp,fun _ h=>h.app⟩
theorem iC.set (l:Q fS)(j:Nat)(v:Int):iC l (zL l j v):=⟨by rw[qm];exact Lz _,fun _ h=>yd h⟩
theorem vE:∀(js:Q Int)(l:Q fS)(v:Int),iC l (km l js v)/\(km l js v).length=l.length
 | [],l,v=>⟨iC.refl _,rfl⟩
 | j::js,l,v=>by
  obtain⟨h1,h2⟩:=vE js (zL l j.toNat v) v;exact⟨(iC.set _ _ _).trans h1,by rw[<-qm l j.toNat v];exact h2⟩
theorem C6 {p:Q fG}:∀(js:Q Int)(l:Q fS)(v:Int),iJ p l->(∀ j∈js,ie l j)->0<=v->v<=l.length->iJ p (km l js v)
 | [],l,v,h,_,_,_=>h
 | j::js,l,v,h,hj,h0,hv=>by
  exact C6 js (zL l j.toNat v) v (Da h (hj j (.head _)) h0 hv) (fun a ha=>yd (hj a (.tail _ ha))) h0 (by rw[qm];exact hv)
theorem qI:∀(es:Q (Int × Int))(l:Q fS)(tgt v:Int),iC l (kV l es tgt v)/\(kV l es tgt v).length=l.length
 | [],l,tgt,v=>⟨iC.refl _,rfl⟩
 | e::es,l,tgt,v=>by
  unfold kV;simp only[NC];by_cases he:e.1=tgt
  ·rw[Lu he]
   obtain⟨h1,h2⟩:=qI es (zL l e.2.toNat v) tgt v;exact⟨(iC.set _ _ _).trans h1,by rw[<-qm l e.2.toNat v];exact h2⟩
  ·rw[Lt he]
   exact qI es l tgt v
theorem yM {p:Q fG}:∀(es:Q (Int × Int))(l:Q fS)(tgt v:Int),iJ p l->(∀ e∈es,ie l e.2)->0<=v->v<=l.length->iJ p (kV l es tgt v)
 | [],l,tgt,v,h,_,_,_=>h
 | e::es,l,tgt,v,h,hj,h0,hv=>by
  unfold kV;simp only[NC];by_cases he:e.1=tgt
  ·rw[Lu he]
   exact yM es (zL l e.2.toNat v) tgt v (Da h (hj e (.head _)) h0 hv) (fun a ha=>yd (hj a (.tail _ ha))) h0 (by rw[qm];exact hv)
  ·rw[Lt he]
   exact yM es l tgt v h (fun a ha=>hj a (.tail _ ha)) h0 hv
structure ij (E:gd):Prop where
 pc:j9 E.p
 inl:0<=E.inl/\E.inl<=3
 words:0<=E.words/\E.words<=100
 args:0<=E.args/\E.args<=4
structure iA (E:gd)(s:fL):Prop where
 od:∃(i e:Nat) (x:fG),s.f=(i:Int)/\E.p[i]?=H x/\x.Kind=0/\gg E.p i e/\(∀(j:Nat) (y:fG),i<j->j<e->E.p[j]?=H y->y.Kind≠0/\zB E.p (zq E.p i) y.Expr=M/\(y.Kind=4->∃ a,i<=a/\a<j/\ir E.p a j)/\(y.Kind=1->jy (zq E.p i) y.Name=M))
 locals:s.locals=zq E.p s.f/\s.locals.length<=8
 first:0<=s.first/\s.first<=8*(s.chain.length:Int)
 chain:s.chain.length<=3/\∀ c∈s.chain,0<=c/\c<E.p.length
 outer:s.outer=M->s.chain = []/\s.first=0/\E.args<=s.locals.length
theorem IQ {E:gd} {arg:Int} (hE:iJ E.p m.items)(hd:0<=m.depth/\m.depth<=1000)(h:∀(x:fS),x.Op=⟨code,arg⟩->x.fN=line->x.fH=chain->(0<=x.fK/\x.fK<=1000/\(x.fI=M->x.fK=0))->ni E.p (m.items.length+1) m.items.length x):iJ E.p (zv E m code arg line chain).items:=by
 refine hE.snoc (h _ rfl rfl rfl ?_);unfold mD;simp only;cases hb:(E.gm && decide (0<m.items.length)) with
 | true=>exact⟨N2 _,by simp,fun _=>rfl⟩
 | false=>exact⟨hd.1,hd.2,fun h=>by cases h⟩
theorem qT (E:gd)(m:fW)(code arg line:Int)(chain:Q Int):(zv E m code arg line chain).items.length=m.items.length+1:=by simp[zv]
theorem Ko {x:fS} {arg:Int} (hop:x.Op=⟨code,arg⟩)(hl:x.fN=line)(hc:x.fH=chain)(hd:0<=x.fK/\x.fK<=1000/\(x.fI=M->x.fK=0))(hj:0<j)
  (hline:0<=line/\line<p.length) (hchain:chain.length<=3/\∀ c∈chain,0<=c/\c<p.length)
  (h:(code=0/\0<=arg/\arg<=999)∨(1<=code/\code<=4/\-2000<=arg/\arg<=2000)∨(((5<=code/\code<=9)∨code=17)/\arg=0)∨((code=10∨code=11)/\0<=arg/\arg<=n)∨((code=12∨code=14∨(code=15/\zG p line≠0))/\0<=arg/\arg<=100)∨(code=16/\0<=arg/\arg<=2000)):ni p n j x:=by
 have h1:x.Op.Code=code:=by rw[hop]
 have h2:x.Op.Arg=arg:=by rw[hop]
 refine⟨by rw[h1];omega,fun h0=>by rw[h1] at h0;rw[h2];omega,fun a b=>by rw[h1] at a b;rw[h2];omega,fun a=>by rw[h1] at a;rw[h2];omega,fun a=>by rw[h1] at a;rw[h2];omega,fun a b=>by rw[h1] at a b;rw[h2];omega,fun a=>by rw[h1] at a;rw[h2];omega,by rw[hl];exact hline,by rw[hc];exact hchain,hd,?_⟩;rw[h1,hl];constructor
 ·intro h0;omega
 ·rintro(h0 | ⟨h0,h3⟩)
  ·exfalso;omega
  ·exfalso
   rcases h with h | h | h | h | h | h
   ·omega
   ·omega
   ·omega
   ·omega
   ·obtain⟨h4 | h4 | ⟨_,h4⟩,_⟩:=h
    ·omega
    ·omega
    ·exact h4 h3
   ·omega
theorem tE:∀(l:Q D)(s:D)(i:Nat),jy l s=M->(i:Int)<=m5 l s i/\m5 l s i<i+l.length
 | [],s,i,h=>by simp[jy] at h
 | y::r,s,i,h=>by
  unfold m5;by_cases hy:y=s
  ·rw[Lu hy]
   simp only[LJ];omega
  ·rw[Lt hy]
   have h2:jy r s=M:=by
    unfold jy at h |-;rw[List.any_cons] at h;simpa[hy] using h
   have:=tE r s (i+1) h2;simp only[LJ];omega
theorem Dv {E:gd} {d:Int} {i:Int} {st:Bool} (hE:ij E)(hs:iA E s)(hd:0<=d/\d<=1000)(hi:0<=i/\i<8):1<=(kQ E d s i st).1/\(kQ E d s i st).1<=4/\-2000<=(kQ E d s i st).2/\(kQ E d s i st).2<=2000:=by
 have h1:=hE.args;have h2:=hs.first;have h3:=hs.chain.1;unfold kQ;simp only;refine⟨?_,?_,?_,?_⟩
 ·split <;> split <;> omega
 ·split <;> split <;> omega
 ·split <;> split <;> (try split) <;> omega
 ·split <;> split <;> (try split) <;> omega
structure iq (E:gd)(m:fW):Prop where
 its:iJ E.p m.items
 pos:0<m.items.length
structure gv (E:gd)(m m':fW)(dd:Int)(n0 w:Nat):Prop where
 ok:iq E m'
 keeps:iC m.items m'.items
 depth:m'.depth=m.depth+dd
 cnt:m'.items.length<=max m.items.length n0+w
 gK:m.gK<=m'.gK/\m'.gK<=max m.gK 40
theorem gv.refl {E:gd}{m:fW}{n0:Nat}(h:iq E m):gv E m m 0 n0 0:=⟨h,iC.refl _,by omega,by omega,by omega⟩
theorem gv.trans {E:gd}{a b c:fW}{d1 d2:Int}{n0 w1 w2:Nat}(h:gv E a b d1 n0 w1)(k:gv E b c d2 n0 w2):gv E a c (d1+d2) n0 (w1+w2):=
 ⟨k.ok,h.keeps.trans k.keeps,by rw[k.depth,h.depth];omega,by have:=h.cnt;have:=k.cnt;omega,by have:=h.gK;have:=k.gK;omega⟩
theorem gv.more {E:gd} {d:Int} {n1 w1 w2:Nat} (h:gv E a b d n0 w1)(hw:w1<=w2)(hn:n0<=n1):gv E a b d n1 w2:=⟨h.ok,h.keeps,h.depth,by have:=h.cnt;omega,h.gK⟩
theorem gv.dep {E:gd} {d d':Int} {w:Nat} (h:gv E a b d n0 w)(hd:d=d'):gv E a b d' n0 w:=by subst hd;exact h
theorem nN {E:gd} {arg dd:Int} (hm:iq E m)(hd:0<=m.depth/\m.depth<=1000)(hline:0<=line/\line<E.p.length)(hchain:chain.length<=3/\∀ c∈chain,0<=c/\c<E.p.length)
  (h:(code=0/\0<=arg/\arg<=999)∨(1<=code/\code<=4/\-2000<=arg/\arg<=2000)∨(((5<=code/\code<=9)∨code=17)/\arg=0)∨((code=10∨code=11)/\0<=arg/\arg<=m.items.length+1)∨((code=12∨code=14∨(code=15/\zG E.p line≠0))/\0<=arg/\arg<=100)∨(code=16/\0<=arg/\arg<=2000)) :
  gv E m ((zv E m code arg line chain).fZ (m.depth+dd)) dd n0 1:=by
 refine⟨⟨?_,by simp[zv,fW.fZ]⟩,iC.app _ _,rfl,by have:=qT E m code arg line chain;simp only[fW.fZ,this];omega,by simp only[zv,fW.fZ];omega⟩;exact IQ hm.its hd (fun x h1 h2 h3 h4=>Ko h1 h2 h3 h4 hm.pos hline hchain h)
theorem wk (E:gd)(m:fW)(code arg line:Int)(chain:Q Int)(h:code=10∨code=11):ie (zv E m code arg line chain).items (m.items.length:Int):=
 ⟨m.items.length,_,rfl,by unfold zv;simp only;rw[LV (Lz _),Mq];rfl,h⟩
def pz (E:gd)(rep:Int->fW->fW)(fs:Q Int)(d:Nat):Prop:=∀(g:Int)(m:fW),iq E m->m.items.length<200->(∃ i:Nat,g=(i:Int)/\∃ x,E.p[i]?=H x/\x.Kind=0)->zT E fs m g=M->
 ((zU E.p g).length:Int)<=m.depth->m.depth<=iP d->gv E m (rep g m) (1-((zU E.p g).length:Int)) (200+iE d) 0
theorem Ce (p:Q fG)(h:(zk p).length<=6)(g:Int):0<=nL p g/\nL p g<=6:=by
 unfold nL;have:=List.length_filter_le (fun k=>decide (k<g)) (zk p);omega
theorem yJ (h:kq t=M):0<=t.Kind/\t.Kind<=7:=by
 unfold kq at h;split at h
 ·omega
 ·split at h
  ·omega
  ·split at h
   ·omega
   ·rw[LC,zX] at h
    omega
theorem I6 (h:kq t=M)(h0:t.Kind=0):0<=t.gN/\t.gN<=999:=by
 unfold kq at h;rw[Lu h0,LC,zX] at h;exact h.1
theorem yI (h:kq t=M)(h0:t.Kind=7):0<=t.gN/\t.gN<=4:=by
 unfold kq at h;rw[Lt (by omega),Lt (by omega),Lu h0,LC,zX] at h;exact h.1
theorem xo {locals:Q D} (h:zD p locals t=M)(h7:t.Kind=7):∃(i:Nat)(x:fG),zQ p t.Name=(i:Int)/\p[i]?=H x/\x.Kind=0/\(x.fP.length:Int)=t.gN:=by
 unfold zD at h;rw[Lt (by omega),Lu h7] at h;rcases FV p t.Name with h1 | ⟨i,x,h1,h2,h3,_⟩
 ·rw[h1] at h;simp at h
 ·rw[h1,Lt (by omega),Lw,h2] at h
  simp only[LQ] at h;exact⟨i,x,h1,h2,h3,h⟩
theorem qk (h:p[i]?=H x):zU p (i:Int)=x.fP:=by
 unfold zU;rw[Lw,h]
theorem uM (h:kq t=M)(h7:t.Kind=7):iL t=t.gN:=by unfold iL;rw[Lu h,Lu h7]
theorem CI (h:kq t=M)(h0:t.Kind=0∨t.Kind=1):iL t=0:=by unfold iL;rw[Lu h,Lt (by omega),Lu h0]
theorem DG (h:kq t=M)(h0:t.Kind≠0)(h1:t.Kind≠1)(h7:t.Kind≠7):iL t=2:=by unfold iL;rw[Lu h,Lt h7,Lt (by omega)]
theorem qJ {E:gd} (h:zT E fs m g=M):(fs.length:Int)-1<E.inl/\zJ E.p g-g<=9/\m.items.length<200/\fs.any (fun f=>decide (f=g))=U:=by
 unfold zT at h;simp only[LC,LQ,NW] at h;exact⟨h.1,h.2.1,by omega,h.2.2.2⟩
theorem Jt {E:gd} {rep:Int->fW->fW} (hE:ij E)(hs:iA E s)(hr:pz E rep fs d)(hm:iq E m)(ht:kq t=M)(hn:zD E.p s.locals t=M)(hk:0<=k/\k<E.p.length)
  (h0:iL t<=m.depth) (h1:m.depth<=iP d):gv E m (kL E rep fs s k t m) (1-iL t) (200+iE d) 1:=by
 have ha:=uR ht;have a1:iP d<=900:=by unfold iP;omega
 unfold kL;by_cases k0:t.Kind=0
 ·rw[Lu k0,CI ht (.inl k0)]
  exact nN hm ⟨by omega,by omega⟩ hk hs.chain (.inl ⟨rfl,I6 ht k0⟩)
 ·rw[Lt k0]
  by_cases k1:t.Kind=1
  ·rw[Lu k1,CI ht (.inr k1)]
   have a2:jy s.locals t.Name=M:=by
    unfold zD at hn;rwa [Lu k1] at hn
   have hx:=tE s.locals t.Name 0 a2;have hl:=hs.locals.2;have hp:=Dv (st:=U) (i:=m5 s.locals t.Name 0) hE hs (d:=m.depth) ⟨by omega,by omega⟩ ⟨by omega,by omega⟩;exact nN hm ⟨by omega,by omega⟩ hk hs.chain (.inr (.inl hp))
  ·rw[Lt k1]
   by_cases k7:t.Kind=7
   ·rw[Lu k7,uM ht k7]
    rw[uM ht k7] at h0;obtain⟨i,x,g1,g2,g3,g4⟩:=xo hn k7;have hc:=yI ht k7;cases hrep:zT E fs m (zQ E.p t.Name) with
    | true=>
     rw[Lu rfl];have a0:((zU E.p (zQ E.p t.Name)).length:Int)=t.gN:=by rw[g1,qk g2];exact g4
     have:=hr (zQ E.p t.Name) m hm (qJ hrep).2.2.1 ⟨i,g1,x,g2,g3⟩ hrep (by omega) h1;rw[a0] at this;exact this.more (by omega) (Lz _)
    | false=>
     rw[Lt (by simp)];have a3:=Ce E.p hE.pc.ki (zQ E.p t.Name);have:=nN (dd:=1-t.gN) (n0:=200+iE d) hm (code:=12) (arg:=nL E.p (zQ E.p t.Name)) (line:=k) (chain:=s.chain) ⟨by omega,by omega⟩ hk hs.chain (.inr (.inr (.inr (.inr (.inl ⟨.inl rfl,by omega,by omega⟩)))));rw[show m.depth-t.gN+1=m.depth+(1-t.gN) from by omega];exact this
   ·rw[Lt k7,DG ht k0 k1 k7]
    rw[DG ht k0 k1 k7] at h0;have a4:=yJ ht;exact nN (dd:=-1) hm ⟨by omega,by omega⟩ hk hs.chain (.inr (.inr (.inl ⟨.inl ⟨by omega,by omega⟩,rfl⟩)))
mutual
theorem Ex.iB {E:gd}{rep:Int->fW->fW}{fs:Q Int}{s:fL}{k:Int}{d:Nat}(hE:ij E)(hs:iA E s)(hr:pz E rep fs d)(hk:0<=k/\k<E.p.length):∀(e:Ex)(m:fW),e.wf->zB E.p s.locals e.flat=M->iq E m->0<=m.depth->m.depth+e.size<=iP d+1->gv E m (e.comp E rep fs s k m) 1 (200+iE d) e.size
 | .node t ks,m,hw,hn,hm,h0,h1=>by
  simp only[Ex.size] at h1;simp only[Ex.flat,zB,List.all_cons,LC] at hn;have a0:=ks.jd;have g1:=gj.iB hE hs hr hk ks m hw.2.2 hn.2 hm h0 (by omega);have g2:=Jt hE hs hr g1.ok hw.1 hn.1 hk (by rw[g1.depth,hw.2.1];omega) (by rw[g1.depth];omega);exact((g1.trans g2).dep (by rw[hw.2.1];omega)).more (by simp only[Ex.size];omega) (Lz _)
theorem gj.iB {E:gd}{rep:Int->fW->fW}{fs:Q Int}{s:fL}{k:Int}{d:Nat}(hE:ij E)(hs:iA E s)(hr:pz E rep fs d)(hk:0<=k/\k<E.p.length):∀(ks:gj)(m:fW),ks.wf->zB E.p s.locals ks.flat=M->iq E m->0<=m.depth->m.depth+ks.size<=iP d+1->gv E m (ks.comp E rep fs s k m) ks.len (200+iE d) ks.size
 | .nil,m,_,_,hm,_,_=>gv.refl hm
 | .cons e r,m,hw,hn,hm,h0,h1=>by
  simp only[gj.size] at h1;simp only[gj.flat,zB,OD,LC] at hn;have he:=e.size_pos;have g1:=Ex.iB hE hs hr hk e m hw.1 hn.1 hm h0 (by omega);have g2:=gj.iB hE hs hr hk r _ hw.2 hn.2 g1.ok (by rw[g1.depth];omega) (by rw[g1.depth];omega);exact((g1.trans g2).dep (by simp only[gj.len];omega)).more (by simp only[gj.size];omega) (Lz _)
end
theorem te {E:gd} {i:Int} (hE:ij E)(hs:iA E s)(hm:iq E m)(hd:0<=m.depth/\m.depth<=1000)(hi:0<=i/\i<8)(hline:0<=line/\line<E.p.length)(hchain:chain.length<=3/\∀ c∈chain,0<=c/\c<E.p.length) :
  gv E m (jC E m s i line chain) (-1) n0 1:=nN (dd:=-1) hm hd hline hchain (.inr (.inl (Dv hE hs hd hi)))
theorem vK {E:gd} (hm:iq E m)(hd:0<=m.depth/\m.depth<=1000)(hv:0<=v/\v<=999)(hline:0<=line/\line<E.p.length)(hchain:chain.length<=3/\∀ c∈chain,0<=c/\c<E.p.length) :
  gv E m (zZ E m v line chain) 1 n0 1:=nN hm hd hline hchain (.inl ⟨rfl,hv⟩)
theorem Bw {E:gd}{x:fL}{k:Int}{chain:Q Int}{n0:Nat}(hE:ij E)(hs:iA E x)(hline:0<=k/\k<E.p.length)(hchain:chain.length<=3/\∀ c∈chain,0<=c/\c<E.p.length):∀(n:Nat)(m:fW),iq E m->(n:Int)<=m.depth->m.depth<=1000->n<=8->gv E m (nP E x k chain n m) (-(n:Int)) n0 n
 | 0,m,hm,_,_,_=>gv.refl hm
 | n+1,m,hm,h0,h1,h8=>by
  have g1:gv E m (jC E m x n k chain) (-1) n0 1:=te hE hs hm ⟨by omega,h1⟩ ⟨by omega,by omega⟩ hline hchain;have g2:=Bw hE hs hline hchain (n0:=n0) n _ g1.ok (by rw[g1.depth];omega) (by rw[g1.depth];omega) (by omega);exact((g1.trans g2).dep (by omega)).more (by omega) (Lz _)
theorem BG {E:gd}{x:fL}{k:Int}{chain:Q Int}{n0:Nat}(hE:ij E)(hs:iA E x)(hline:0<=k/\k<E.p.length)(hchain:chain.length<=3/\∀ c∈chain,0<=c/\c<E.p.length):∀(n i:Nat)(m:fW),iq E m->0<=m.depth->m.depth<=999->i+n<=8->gv E m (oS E x k chain n i m) 0 n0 (2*n)
 | 0,i,m,hm,_,_,_=>gv.refl hm
 | n+1,i,m,hm,h0,h1,h8=>by
  have g0:gv E m (zZ E m 0 k chain) 1 n0 1:=vK hm ⟨h0,by omega⟩ ⟨by omega,by omega⟩ hline hchain;have g1:gv E (zZ E m 0 k chain) (jC E (zZ E m 0 k chain) x i k chain) (-1) n0 1:=te hE hs g0.ok ⟨by rw[g0.depth];omega,by rw[g0.depth];omega⟩ ⟨by omega,by omega⟩ hline hchain;have g2:=BG hE hs hline hchain (n0:=n0) n (i+1) _ g1.ok (by rw[g1.depth,g0.depth];omega) (by rw[g1.depth,g0.depth];omega) (by omega);exact(((g0.trans g1).trans g2).dep (by omega)).more (by omega) (Lz _)
theorem F5 (out:Q D)(x:fG):out.length<=(oz out x).length:=by
 unfold oz;split
 ·simp
 ·exact Lz _
theorem BF:∀(l:Q fG)(n:Nat)(out:Q D),out.length<=(ma l n out).length
 | _,0,out=>by cases ‹Q fG› <;> exact Lz _
 | [],_+1,out=>Lz _
 | x::r,n+1,out=>LO (F5 out x) (BF r n _)
theorem Gf (he:gg p i e)(hx:p[i]?=H x)(h0:x.Kind=0):x.fP.length<=(zq p i).length:=by
 unfold zq;rw[he.iy,Lt (by omega)];simp only[Lw,hx,h0,Nx];exact BF _ _ _
def isFun (p:Q fG)(g:Int):Prop:=∃ i:Nat,g=(i:Int)/\∃ x,p[i]?=H x/\x.Kind=0
theorem isFun.parts {E:gd} (hE:ij E){g:Int}(h:isFun E.p g):((zU E.p g).length<=4/\(zU E.p g).length<=(zq E.p g).length/\(zq E.p g).length<=8):=by
 obtain⟨i,rfl,x,hx,h0⟩:=h;obtain⟨e,h1,h2,h3⟩:=hE.pc.body i x hx h0;rw[qk hx];exact⟨hE.pc.args i x hx,Gf h1 hx h0,h2⟩
theorem wL {E:gd} (hE:ij E)(hs:iA E s)(hg:isFun E.p g)(hk:0<=k/\k<E.p.length)(hc:s.chain.length<=2):iA E (kS E g k s):=by
 have hp:=hg.parts hE;obtain⟨i,rfl,x,hx,h0⟩:=hg;obtain⟨e,h1,h2,h3⟩:=hE.pc.body i x hx h0;have hf:=hs.first;have hl:=hs.locals.2;refine⟨⟨i,e,x,rfl,hx,h0,h1,h3⟩,⟨rfl,h2⟩,?_,?_,fun h=>by cases h⟩
 ·unfold kS m9
  simp only[Lj,LJ,Mk];split
  ·rename_i ho
   obtain⟨h4,h5,h6⟩:=hs.outer ho;have:=hE.args;rw[h4];simp only[Mk];omega
  ·omega
 ·unfold kS
  simp only[Lj,LJ,Mk,LG,Lr];refine⟨by omega,fun c hc'=>?_⟩;rcases hc' with h | rfl
  ·exact hs.chain.2 c h
  ·exact hk
theorem xQ {E:gd} (hE:ij E)(hs:iA E s)(hg:isFun E.p g)(hk:0<=k/\k<E.p.length)(hk0:zG E.p k≠0)(hc:s.chain.length<=2)(hm:iq E m)(h0:((zU E.p g).length:Int)<=m.depth)(h1:m.depth<=900) :
  gv E m (nG E g k s m) (-((zU E.p g).length:Int)) n0 21:=by
 have hp:=hg.parts hE;have hx:=wL hE hs hg hk hc;have hf:=hx.first
 have a1:0<=m9 E s/\m9 E s<=24:=by
  have h2:=hf;unfold kS at h2;simp only[Lj,LJ,Mk] at h2;omega
 have a3:(kS E g k s).locals.length<=8:=hx.locals.2;have a0:(kS E g k s).locals=zq E.p g:=rfl;unfold nG;simp only;have g0:gv E m (m.iY (max m.gK (m9 E s+(kS E g k s).locals.length))) 0 n0 0:=⟨⟨hm.its,hm.pos⟩,iC.refl _,by simp[fW.iY],by simp only[fW.iY];omega,by simp only[fW.iY];omega⟩
 have g1:=Bw (n0:=n0) hE hx hk hs.chain (zU E.p g).length _ g0.ok (by rw[g0.depth];omega) (by rw[g0.depth];omega) (by omega);have g2:=BG (n0:=n0) hE hx hk hs.chain ((kS E g k s).locals.length-(zU E.p g).length) (zU E.p g).length _ g1.ok (by rw[g1.depth,g0.depth];omega) (by rw[g1.depth,g0.depth];omega) (by rw[a0];omega);have g3:=(g0.trans g1).trans g2;have a2:=g3.depth;split
 ·have g4:=nN (dd:=0) (n0:=n0) g3.ok (code:=15) (arg:=0) (line:=k) (chain:=s.chain) ⟨by omega,by omega⟩ hk hs.chain (.inr (.inr (.inr (.inr (.inl ⟨.inr (.inr ⟨rfl,hk0⟩),by omega,by omega⟩)))))
  rw[Ns] at g4;exact((g3.trans g4).dep (by omega)).more (by rw[a0];omega) (Lz _)
 ·exact(g3.dep (by omega)).more (by rw[a0];omega) (Lz _)
structure ke (E:gd)(L:iN):Prop where
 mo:iq E L.m
 leaves:∀ j∈L.leaves,ie L.m.items j
 fT:∀ e∈L.fT,ie L.m.items e.2
 fR:∀ h∈L.fR,0<=h/\h<=L.m.items.length
theorem ke.up {E:gd} {L:iN} (h:ke E L)(hm:iq E m)(hk:iC L.m.items m.items):ke E (L.wm m):=
 ⟨hm,fun j hj=>hk.jump j (h.leaves j hj),fun e he=>hk.jump _ (h.fT e he),fun a ha=>by have:=h.fR a ha;have:=hk.len;simp only[iN.wm];omega⟩
theorem vP {E:gd} {es:Q (Int × Int)} {tgt:Int} (hm:iq E m)(he:∀ e∈es,ie m.items e.2):gv E m (zV m es tgt) 0 n0 0:=by
 obtain⟨h1,h2⟩:=qI es m.items tgt m.items.length;exact⟨⟨yM es m.items tgt _ hm.its he (by omega) (by omega),by have:=hm.pos;simp only[zV,fW.gU,h2];exact this⟩,h1,by simp[zV,fW.gU],by simp only[zV,fW.gU,h2];omega,by simp only[zV,fW.gU];omega⟩
theorem vH (E:gd)(k:Nat)(chain:Q Int)(fR:Q Int):∀(n i:Nat)(m:fW),(lK E k chain fR n i m=m/\∀ j,i<=j->j<i+n->¬ (gg E.p j k/\zG E.p j=5))∨∃ j,i<=j/\j<i+n/\gg E.p j k/\zG E.p j=5/\lK E k chain fR n i m=zv E m 10 (fR.getD j 0) k chain
 | 0,i,m=>.inl ⟨rfl,fun j a b=>by omega⟩
 | n+1,i,m=>by
  unfold lK;by_cases h:zJ E.p i=k/\(E.p[i]?.map fG.Kind)=H 5
  ·rw[Lu h]
   have he:=vS h.1;have a0:zG E.p i=5:=by unfold zG;rw[Lw,h.2];rfl
   rcases vH E k chain fR n (i+1) (zv E m 10 (fR.getD i 0) k chain) with⟨h1,_⟩ | ⟨j,a,b,c,_⟩
   ·exact .inr ⟨i,Lz _,by omega,he,a0,h1⟩
   ·have:=he.same c;omega
  ·rw[Lt h]
   rcases vH E k chain fR n (i+1) m with⟨h1,h2⟩ | ⟨j,a,b,c⟩
   ·refine .inl ⟨h1,fun j a b hc=>?_⟩
    by_cases hj:j=i
    ·subst hj
     refine h ⟨hc.1.iy,?_⟩;have h5:=hc.2;unfold zG at h5;rw[Lw] at h5;cases hx:E.p[j]?.map fG.Kind with
     | none=>rw[hx] at h5;simp at h5
     | some v=>rw[hx] at h5;simp only[Option.getD_some] at h5;rw[h5]
    ·exact h2 j (by omega) (by omega) hc
   ·exact .inr ⟨j,by omega,by omega,c⟩
theorem vF (p:Q fG)(k item:Int):∀(n i:Nat),∀ e∈lI p k item n i,e.2=item
 | 0,_,e,h=>by cases h
 | n+1,i,e,h=>by
  unfold lI at h;split at h
  ·rcases LU.1 h with rfl | h
   ·rfl
   ·exact vF p k item n (i+1) e h
  ·exact vF p k item n (i+1) e h
theorem BP {E:gd} {last:Bool} {L:iN} (hE:ij E)(hs:iA E s)(hL:ke E L)(hd:0<=L.m.depth/\L.m.depth<=1000)(hk:0<=k/\k<E.p.length):ke E (zR E s k last L)/\gv E L.m (zR E s k last L).m (-1) n0 1/\(zR E s k last L).fT=L.fT/\(zR E s k last L).fR=L.fR:=by
 have ha:=hE.args;have hw:=hE.words;unfold zR;split
 ·split
  ·have g:gv E L.m ((zv E L.m 14 E.args k s.chain).fZ (L.m.depth + -1)) (-1) n0 1:=nN hL.mo hd hk hs.chain (.inr (.inr (.inr (.inr (.inl ⟨.inr (.inl rfl),by omega,by omega⟩)))))
   exact⟨hL.up g.ok g.keeps,g,rfl,rfl⟩
  ·have g:gv E L.m ((zv E L.m 16 (E.args+16*E.words) k s.chain).fZ (L.m.depth + -1)) (-1) n0 1:=nN hL.mo hd hk hs.chain (.inr (.inr (.inr (.inr (.inr ⟨rfl,by omega,by omega⟩)))))
   exact⟨hL.up g.ok g.keeps,g,rfl,rfl⟩
 ·split
  ·have g:gv E L.m (L.m.fZ (L.m.depth-1)) (-1) n0 1:=⟨⟨hL.mo.its,hL.mo.pos⟩,iC.refl _,rfl,by simp only[fW.fZ];omega,by simp only[fW.fZ];omega⟩
   exact⟨hL.up g.ok g.keeps,g,rfl,rfl⟩
  ·have g:gv E L.m ((zv E L.m 10 0 k s.chain).fZ (L.m.depth + -1)) (-1) n0 1:=nN hL.mo hd hk hs.chain (.inr (.inr (.inr (.inl ⟨.inl rfl,by omega,by omega⟩))))
   have g2:=hL.up g.ok g.keeps;refine⟨⟨g2.mo,fun j hj=>?_,g2.fT,g2.fR⟩,g,rfl,rfl⟩;rcases LG.1 hj with h | h
   ·exact g2.leaves j h
   ·rw[Lr.1 h]
    exact wk E L.m 10 0 k s.chain (.inl rfl)
theorem lq {k:Nat} (h:p[k]?=H x):zG p (k:Int)=x.Kind:=by
 unfold zG;rw[Lw,h];rfl
theorem Ik {l:Q Int} (h:∀ a∈l,0<=a/\a<=(n:Int))(hv:0<=v/\v<=(n:Int)):∀ a∈l.set i v,0<=a/\a<=(n:Int):=fun a ha=>by
 rcases List.mem_or_eq_of_mem_set ha with h1 | rfl
 ·exact h a h1
 ·exact hv
theorem Dn {l:Q Int} (j:Nat)(h:∀ a∈l,0<=a/\a<=(n:Int)):0<=l.getD j 0/\l.getD j 0<=(n:Int):=by
 rw[Mp];cases hx:l[j]? with
 | none=>simp
 | some a=>exact h a (LP hx)
theorem xP (h:0<=k/\k<=7)(h0:k≠0)(h4:k≠4)(h7:k≠7):mM k=M:=by
 unfold mM;simp only[NU,LQ];omega
theorem xT {E:gd} {rep:Int->fW->fW} {k:Nat} {L:iN} (hE:ij E)(hs:iA E s)(hr:pz E rep fs d)(hL:ke E L)(hf:s.f=(i:Int))(he:gg E.p i e)(h1:i<k)(h2:k<=e)(hx:E.p[k]?=H x)
  (hd:0<=L.m.depth/\L.m.depth<=iP (d+1)):ke E (je E rep fs s e k x L)/\gv E L.m (je E rep fs s e k x L).m 0 (200+iE d) 24:=by
 have ak:=(Lh.1 hx).1;have hk:0<=(k:Int)/\(k:Int)<E.p.length:=⟨by omega,by omega⟩
 have af:iP (d+1)=iP d-30:=by unfold iP;omega
 have ab:iP d<=900:=by unfold iP;omega
 have g0:gv E L.m (zV L.m L.fT k) 0 (200+iE d) 0:=vP hL.mo hL.fT;have a4:=hL.up g0.ok g0.keeps;have a1:(zV L.m L.fT k).items.length=L.m.items.length:=(qI _ _ _ _).2;have ac:(zV L.m L.fT k).depth=L.m.depth:=rfl;have ae:(zV L.m L.fT k).gK=L.m.gK:=rfl;unfold je;simp only;generalize zV L.m L.fT (k:Int)=m0 at g0 a4 a1 ac ae |-;by_cases k4:x.Kind=4
 ·rw[Lu k4]
  have g1:=nN (dd:=0) (n0:=200+iE d) g0.ok (code:=10) (arg:=0) (line:=k) (chain:=s.chain) ⟨by rw[g0.depth];omega,by rw[g0.depth];omega⟩ hk hs.chain (.inr (.inr (.inr (.inl ⟨.inl rfl,by omega,by omega⟩))));rw[Ns] at g1;have a2:=a4.up g1.ok g1.keeps
  have a6:∀ z∈L.fT++lI E.p k L.m.items.length (k-s.f.toNat) s.f.toNat,ie (zv E m0 10 0 k s.chain).items z.2:=fun z hz=>by
   rcases LG.1 hz with h | h
   ·exact a2.fT z h
   ·rw[vF _ _ _ _ _ z h,<-a1]
    exact wk E _ 10 0 k s.chain (.inl rfl)
  have g2:=vP (tgt:=-(k:Int)) (n0:=200+iE d) g1.ok a6;have a3:=a2.up g2.ok g2.keeps;exact⟨⟨a3.mo,a3.leaves,fun z hz=>g2.keeps.jump _ (a6 z hz),a3.fR⟩,(((g0.trans g1).trans g2).dep (by omega)).more (by omega) (Lz _)⟩
 ·rw[Lt k4]
  by_cases k7:x.Kind=7
  ·rw[Lu k7]
   by_cases aa:k=e
   ·rw[Lu aa]
    have g1:gv E m0 (zZ E m0 0 k s.chain) 1 (200+iE d) 1:=vK g0.ok ⟨by rw[g0.depth];omega,by rw[g0.depth];omega⟩ ⟨by omega,by omega⟩ hk hs.chain;have a2:=a4.up g1.ok g1.keeps;obtain⟨w1,w2,_,_⟩:=BP (last:=M) (n0:=200+iE d) hE hs a2 ⟨by have:=g1.depth;simp only[iN.wm];omega,by have:=g1.depth;simp only[iN.wm];omega⟩ hk;exact⟨w1,(((g0.trans g1).trans w2).dep (by omega)).more (by omega) (Lz _)⟩
   ·rw[Lt aa]
    rcases vH E k s.chain L.fR (k-(s.f.toNat+1)) (s.f.toNat+1) m0 with⟨w,_⟩ | ⟨j,_,_,_,_,w⟩
    ·rw[w]
     exact⟨a4,g0.more (by omega) (Lz _)⟩
    ·rw[w]
     have hh:0<=L.fR.getD j 0/\L.fR.getD j 0<=(m0.items.length:Int):=Dn j a4.fR;have g1:=nN (dd:=0) (n0:=200+iE d) g0.ok (code:=10) (arg:=L.fR.getD j 0) (line:=k) (chain:=s.chain) ⟨by rw[g0.depth];omega,by rw[g0.depth];omega⟩ hk hs.chain (.inr (.inr (.inr (.inl ⟨.inl rfl,hh.1,by omega⟩))));rw[Ns] at g1;exact⟨a4.up g1.ok g1.keeps,((g0.trans g1).dep (by omega)).more (by omega) (Lz _)⟩
  ·rw[Lt k7]
   have aa:k≠e:=fun hh=>by
    subst hh;obtain⟨y,hy,h7⟩:=he.last;rw[hx] at hy;injection hy with hy
    exact k7 (by rw[hy];exact h7)
   obtain⟨i',e',z,w1,w2,w3,w4,w5⟩:=hs.od;have ah:i'=i:=by rw[hf] at w1;omega
   subst ah;have ag:=w4.uniq he;subst ag;obtain⟨n1,n2,n3,n4⟩:=w5 k x h1 (by omega) hx;have a5:=zX.1 (hE.pc.kind k x hx);have a9:mM x.Kind=M:=xP a5 n1 k4 k7;obtain⟨ex,e1,e2,e3⟩:=hE.pc.expr k x hx a9;have ai:iq E m0.begun:=⟨g0.ok.its,g0.ok.pos⟩
   have g1:gv E m0.begun (nT E rep fs s k x.Expr m0.begun) 1 (200+iE d) ex.size:=by
    rw[e2,uS e1];rw[e2] at n2;refine Ex.iB hE hs hr hk ex _ e1 ?_ ai (by simp only[fW.begun];omega) ?_
    ·rw[hs.locals.1,hf]
     exact n2
    ·have:=hd.2
     simp only[fW.begun];omega
   have a0:gv E L.m (nT E rep fs s k x.Expr m0.begun) 1 (200+iE d) 20:=
    ⟨g1.ok,g0.keeps.trans g1.keeps,by rw[g1.depth,<-ac];rfl,by have h8:=g1.cnt;rw[show m0.begun.items.length=L.m.items.length from a1] at h8;omega,by have h9:=g1.gK;rw[show m0.begun.gK=L.m.gK from ae] at h9;exact h9⟩
   generalize nT E rep fs s k x.Expr m0.begun=m1 at g1 a0;have a7:=hL.up a0.ok a0.keeps;have a2:ke E { m:=m1,leaves:=L.leaves,fR:=L.fR.set k L.m.items.length,fT:=L.fT }:=⟨a7.mo,a7.leaves,a7.fT,Ik a7.fR ⟨by omega,by have:=a0.keeps.len;simp only;omega⟩⟩
   have a8:0<=m1.depth/\m1.depth<=1000:=by rw[a0.depth];omega
   by_cases k1:x.Kind=1
   ·rw[Lu k1]
    have ad:=n4 k1;rw[<-hf,<-hs.locals.1] at ad;have aj:=tE s.locals x.Name 0 ad;have al:=hs.locals.2;have g2:gv E m1 (jC E m1 s (m5 s.locals x.Name 0) k s.chain) (-1) (200+iE d) 1:=te hE hs a0.ok a8 ⟨by omega,by omega⟩ hk hs.chain;exact⟨a2.up g2.ok g2.keeps,((a0.trans g2).dep (by omega)).more (by omega) (Lz _)⟩
   ·rw[Lt k1]
    by_cases k2:x.Kind=2
    ·rw[Lu k2]
     have g2:gv E m1 ((zv E m1 17 0 k s.chain).fZ (m1.depth + -1)) (-1) (200+iE d) 1:=nN a0.ok a8 hk hs.chain (.inr (.inr (.inl ⟨.inr rfl,rfl⟩)));exact⟨a2.up g2.ok g2.keeps,((a0.trans g2).dep (by omega)).more (by omega) (Lz _)⟩
    ·rw[Lt k2]
     by_cases k6:x.Kind=6
     ·rw[Lu k6]
      obtain⟨w1,w2,_,_⟩:=BP (last:=U) (n0:=200+iE d) hE hs a2 a8 hk;exact⟨w1,((a0.trans w2).dep (by omega)).more (by omega) (Lz _)⟩
     ·rw[Lt k6]
      have g2:gv E m1 ((zv E m1 11 0 k s.chain).fZ (m1.depth + -1)) (-1) (200+iE d) 1:=nN a0.ok a8 hk hs.chain (.inr (.inr (.inr (.inl ⟨.inr rfl,by omega,by omega⟩))));have a3:=a2.up g2.ok g2.keeps;refine⟨⟨a3.mo,a3.leaves,fun z hz=>?_,a3.fR⟩,((a0.trans g2).dep (by omega)).more (by omega) (Lz _)⟩;rcases LG.1 hz with h | h
      ·exact a3.fT z h
      ·rw[Lr.1 h]
       exact wk E m1 11 0 k s.chain (.inr rfl)
theorem Fo {E:gd} {rep:Int->Int->fW->fW} (hE:ij E)(hs:iA E s)(hr:∀ k:Nat,zG E.p k≠0->k<E.p.length->pz E (rep k) fs d)(hf:s.f=(i:Int))(he:gg E.p i e) :
  ∀(n k:Nat) (L:iN),ke E L->i<k->k+n=e+1->0<=L.m.depth->L.m.depth<=iP (d+1)->ke E (nA E rep fs s e (E.p.drop k) n k L)/\gv E L.m (nA E rep fs s e (E.p.drop k) n k L).m 0 (200+iE d) (24*n):=by
 intro n;induction n with
 | zero=>
  intro k L hL _ _ _ _;have:nA E rep fs s e (E.p.drop k) 0 k L=L:=by cases E.p.drop k <;> rfl
  rw[this];exact⟨hL,gv.refl hL.mo⟩
 | succ n ih=>
  intro k L hL a1 a5 h0 h1;have a0:k<E.p.length:=by have:=he.len;omega
  have hx:E.p[k]?=H E.p[k]:=Lo a0;rw[LI a0]
  have a4:zG E.p k≠0:=by
   rw[lq hx];intro h;by_cases hke:k=e
   ·subst hke
    obtain⟨y,hy,h7⟩:=he.last;rw[hx] at hy;injection hy with hy
    rw[hy] at h;omega
   ·obtain⟨i',e',z,w1,w2,w3,w4,w5⟩:=hs.od
    have a3:i'=i:=by rw[hf] at w1;omega
    subst a3;have a2:=w4.uniq he;subst a2;exact(w5 k _ a1 (by omega) hx).1 h
  obtain⟨g1,g2⟩:=xT hE hs (hr k a4 a0) hL hf he a1 (by omega) hx ⟨h0,h1⟩;obtain⟨g3,g4⟩:=ih (k+1) _ g1 (by omega) (by omega) (by rw[g2.depth];omega) (by rw[g2.depth];omega);exact⟨g3,((g2.trans g4).dep (by omega)).more (by omega) (Lz _)⟩
def Ak (E:gd)(lines:Q Int->fL->fW->fW × Q Int)(d:Nat):Prop:=∀(fs:Q Int)(s:fL)(m:fW)(i e:Nat),iA E s->s.leaves = []->fs.length=s.chain.length+1->s.chain.length+d=3->iq E m->s.f=(i:Int)->gg E.p i e->0<=m.depth->m.depth<=iP (d+1)->
 gv E m (lines fs s m).1 0 (200+iE d) (24*(e-i))/\∀ j∈(lines fs s m).2,ie (lines fs s m).1.items j
theorem xF {E:gd} {lines:Q Int->fL->fW->fW × Q Int} {k:Nat} (hE:ij E)(hs:iA E s)(hl:Ak E lines d)(hfs:fs.length=s.chain.length+1)(hd:s.chain.length+(d+1)=3)(hk:k<E.p.length)(hk0:zG E.p k≠0):pz E (fun g m=>zE E lines fs k s g m) fs (d+1):=by
 intro g m hm a5 hg a0 h0 h1;have a1:s.chain.length<=2:=by omega
 have a3:0<=(k:Int)/\(k:Int)<E.p.length:=⟨by omega,by omega⟩
 have a4:iP (d+1)<=900:=by unfold iP;omega
 have g1:=xQ (n0:=200) hE hs hg a3 hk0 a1 hm h0 (by omega);have hx:=wL hE hs hg a3 a1;have a7:=qJ a0;obtain⟨i,rfl,x,a9,a8⟩:=hg;obtain⟨e,he,_,_⟩:=hE.pc.body i x a9 a8;have a6:=a7.2.1;rw[he.iy] at a6;have a2:(kS E i k s).chain.length=s.chain.length+1:=by unfold kS;simp
 obtain⟨g2,g3⟩:=hl (fs++[(i:Int)]) (kS E i k s) (nG E i k s m) i e hx rfl (by rw[a2];simp[hfs]) (by rw[a2];omega) g1.ok rfl he (by rw[g1.depth];omega) (by rw[g1.depth];omega);obtain⟨g4,g5⟩:=vE (lines (fs++[(i:Int)]) (kS E i k s) (nG E i k s m)).2 (lines (fs++[(i:Int)]) (kS E i k s) (nG E i k s m)).1.items (lines (fs++[(i:Int)]) (kS E i k s) (nG E i k s m)).1.items.length;unfold zE;simp only;refine⟨⟨?_,?_⟩,?_,?_,?_,?_⟩
 ·exact C6 _ _ _ g2.ok.its g3 (by omega) (by omega)
 ·simp only[fW.fZ,fW.gU,g5];exact g2.ok.pos
 ·exact(g1.keeps.trans g2.keeps).trans g4
 ·simp only[fW.fZ];rw[g1.depth];omega
 ·simp only[fW.fZ,fW.gU,g5]
  have h5:=g1.cnt;have h6:=g2.cnt;have h7:24*(e-i)<=216:=by omega
  have h8:iE (d+1)=iE d+250:=by unfold iE;omega
  omega
 ·simp only[fW.fZ,fW.gU]
  have h5:=g1.gK;have h6:=g2.gK;omega
theorem Dr {E:gd} (hE:ij E){d:Nat}(hrep:∀(fs:Q Int)(s:fL)(k:Nat),iA E s->fs.length=s.chain.length+1->s.chain.length+d=3->k<E.p.length->zG E.p k≠0->pz E (fun g m=>zE E (zH E d) fs k s g m) fs d):Ak E (zH E (d+1)) d:=by
 intro fs s m i e hs a3 a2 a4 hm hf he h0 h1;have a0:ke E ⟨m,s.leaves,Mz E.p.length 0,[]⟩:=⟨hm,fun j hj=>(by simp only[a3] at hj;cases hj),fun z hz=>(by cases hz),fun a ha=>(by rw[Ol ha];simp)⟩
 have a5:=he.lt;obtain⟨g1,g2⟩:=Fo (rep:=fun k g m=>zE E (zH E d) fs k s g m) hE hs (fun k hk0 hk=>hrep fs s k hs a2 a4 hk hk0) hf he (e-i) (i+1) ⟨m,s.leaves,Mz E.p.length 0,[]⟩ a0 (by omega) (by omega) h0 h1
 have a1:zH E (d+1) fs s m=((nA E (fun k g m=>zE E (zH E d) fs k s g m) fs s e (E.p.drop (i+1)) (e-i) (i+1) ⟨m,s.leaves,Mz E.p.length 0,[]⟩).m,(nA E (fun k g m=>zE E (zH E d) fs k s g m) fs s e (E.p.drop (i+1)) (e-i) (i+1) ⟨m,s.leaves,Mz E.p.length 0,[]⟩).leaves):=by
  show qv E (fun fs s k g m=>zE E (zH E d) fs k s g m) fs s m=_;unfold qv;simp only[hf,he.iy,Lw]
 rw[a1];exact⟨g2,g1.leaves⟩
theorem uL {E:gd} (hE:ij E):∀ d:Nat,Ak E (zH E (d+1)) d:=by
 intro d;induction d with
 | zero=>
  refine Dr hE (fun fs s k hs hfs hd hk hk0=>?_);intro g m _ _ _ a0;have h1:=(qJ a0).1;have h2:=hE.inl.2;omega
 | succ d ih=>exact Dr hE (fun fs s k hs hfs hd hk hk0=>xF hE hs ih hfs hd hk hk0)
theorem vC:∀(l:Q fG)(k:Nat),∀ g∈iS l k,∃ i:Nat,g=((k+i:Nat):Int)/\∃ x,l[i]?=H x/\x.Kind=0
 | [],k,g,h=>by cases h
 | y::r,k,g,h=>by
  unfold iS at h;by_cases hy:y.Kind=0
  ·rw[Lu hy] at h
   rcases LU.1 h with rfl | h
   ·exact⟨0,rfl,y,rfl,hy⟩
   ·obtain⟨i,h1,x,h2,h3⟩:=vC r (k+1) g h
    exact⟨i+1,by rw[h1];congr 1;omega,x,by simpa using h2,h3⟩
  ·rw[Lt hy] at h
   obtain⟨i,h1,x,h2,h3⟩:=vC r (k+1) g h;exact⟨i+1,by rw[h1];congr 1;omega,x,by simpa using h2,h3⟩
theorem vM (h:(zk p)[f]?=H g):isFun p g:=by
 obtain⟨i,h1,x,h2,h3⟩:=vC p 0 g (LP h);exact⟨i,by rw[h1];simp,x,h2,h3⟩
theorem vI {b:gC} {words:Int} (hp:j9 p)(hb:gW b.Inline 0 3=M)(hf:f<(zk p).length)(hw:0<=words/\words<=100) :
  iJ p (kH p b f words).1/\0<(kH p b f words).1.length/\(kH p b f words).1.length<=2400/\0<=(kH p b f words).2/\(kH p b f words).2<=40:=by
 have hg:(zk p)[f]?=H (zk p)[f]:=Lo hf;have a0:=vM hg;unfold kH;rw[hg];simp only[Option.getD_some];generalize (zk p)[f]=g at a0
 have hE:ij ⟨p,b.Inline,kB b f,words,((zU p g).length:Int)⟩:=by
  obtain⟨i,rfl,x,hx,h0⟩:=a0;have:=hp.args i x hx;exact⟨hp,zX.1 hb,hw,by rw[qk hx];exact⟨by simp only;omega,by simp only;omega⟩⟩
 have a3:=a0.parts hE;simp only at a3;obtain⟨i,rfl,x,hx,h0⟩:=a0;obtain⟨e,he,h8,a4⟩:=hp.body i x hx h0;generalize hEE:(⟨p,b.Inline,kB b f,words,((zU p (i:Int)).length:Int)⟩:gd)=E at hE;have a1:E.p=p:=by rw[<-hEE]
 have a6:E.args=((zU p (i:Int)).length:Int):=by rw[<-hEE]
 have ab:=(Lh.1 hx).1
 have hs:iA E ⟨i,[],zq p i,0,M,[]⟩:=by
  refine⟨⟨i,e,x,rfl,by rw[a1];exact hx,h0,by rw[a1];exact he,by rw[a1];exact a4⟩,⟨by rw[a1],h8⟩,⟨N2 _,by simp⟩,⟨by simp,fun c hc=>(by cases hc)⟩,fun _=>⟨rfl,rfl,by rw[a6];simp only;omega⟩⟩
 have hm:iq E ((zv E ⟨[],0,((zq p i).length:Int)-((zU p (i:Int)).length:Int),U⟩ (if kB b f=M then 13 else 15) words i []).fZ words):=by
  refine⟨?_,by simp[zv,fW.fZ]⟩;intro j y hy;have aa:=(Lh.1 hy).1;simp only[fW.fZ,zv,Mw,LJ,Mk] at aa;have hj:j=0:=by omega
  subst hj;simp only[fW.fZ,zv,Mw,Mf,Mg] at hy;subst hy;have a5:zG E.p (i:Int)=0:=by rw[a1,lq hx];exact h0
  simp only[fW.fZ,zv,Mw,mD,Mk,NH,decide_false,OQ];have a2:(if kB b f=M then (13:Int) else 15)=13∨(if kB b f=M then (13:Int) else 15)=15:=by split <;> simp
  generalize (if kB b f=M then (13:Int) else 15)=code at a2;refine⟨by simp only;omega,fun h=>by simp only at h;omega,fun h h'=>by simp only at h h';omega,fun h=>by simp only at h;omega,fun h=>by simp only at h;omega,fun _ _=>hw,fun h=>by simp only at h;omega,⟨by simp only;omega,by rw[a1];simp only;omega⟩,⟨by simp,fun c hc=>(by cases hc)⟩,⟨by simp,by simp,fun h=>(by cases h)⟩,⟨fun _=>?_,fun _=>rfl⟩⟩;rcases a2 with h | h
  ·exact .inl h
  ·exact .inr ⟨h,a5⟩
 have a7:((zv E ⟨[],0,((zq p i).length:Int)-((zU p (i:Int)).length:Int),U⟩ (if kB b f=M then 13 else 15) words i []).fZ words).items.length=1:=by simp[zv,fW.fZ]
 have a8:((zv E ⟨[],0,((zq p i).length:Int)-((zU p (i:Int)).length:Int),U⟩ (if kB b f=M then 13 else 15) words i []).fZ words).gK=((zq p i).length:Int)-((zU p (i:Int)).length:Int):=rfl;have a9:((zv E ⟨[],0,((zq p i).length:Int)-((zU p (i:Int)).length:Int),U⟩ (if kB b f=M then 13 else 15) words i []).fZ words).depth=words:=rfl;generalize (zv E ⟨[],0,((zq p i).length:Int)-((zU p (i:Int)).length:Int),U⟩ (if kB b f=M then 13 else 15) words i []).fZ words=K9 at hm a7 a8 a9 |-;have hL:=(uL hE 3) [(i:Int)] ⟨i,[],zq p i,0,M,[]⟩ K9 i e hs rfl rfl rfl hm rfl (by rw[a1];exact he) (by omega) (by have:=hw.2;simp only[iP];omega);obtain⟨h1,_⟩:=hL;have h2:=h1.cnt;have h3:=h1.gK;have h5:=he.len;have h6:=hp.len;have h7:=h1.ok.its;have h9:=h1.ok.pos;rw[a1] at h7;rw[show 3+1=4 from rfl] at h2 h3 h7 h9;generalize zH E 4 [(i:Int)] ⟨i,[],zq p i,0,M,[]⟩ K9=R at h2 h3 h7 h9 |-;simp only[iE] at h2;exact⟨h7,h9,by omega,by omega,by omega⟩
theorem uC {b:gC} (hp:zs p=M)(hb:jG b=M)(hf:f<(zk p).length) :
  iJ p (jY p b f)/\0<(jY p b f).length/\(jY p b f).length<=2400:=by
 have hF:=nt hp;unfold jG at hb;rw[LC] at hb
 have a1:∀ q:Q fG,j9 q->f<(zk q).length->ic q p->iJ p (kH q b f (kH q b f 0).2).1/\0<(kH q b f (kH q b f 0).2).1.length/\(kH q b f (kH q b f 0).2).1.length<=2400:=by
  intro q hq a0 hk;obtain⟨_,_,_,h4,h5⟩:=vI (words:=0) hq hb.2 a0 ⟨by omega,by omega⟩;obtain⟨g1,g2,g3,_,_⟩:=vI (words:=(kH q b f 0).2) hq hb.2 a0 ⟨h4,by omega⟩;refine⟨fun j x hx=>?_,g2,g3⟩;have h:=g1 j x hx;have a3:∀ k,zG q k=zG p k:=fun k=>by unfold zG;rw[hk.at]
  exact⟨h.code,h.lit,h.var,h.op,h.jump,h.small,h.ret,by rw[<-hk.len];exact h.line,by rw[<-hk.len];exact h.chain,h.depth,by rw[<-a3];exact h.first⟩
 unfold jY;simp only;split
 ·have a2:mh p=p.map zI:=by unfold mh;rw[Lu hp]
  rw[a2];exact a1 _ hF.fold (by rw[tS];exact hf) (vU p).symm
 ·exact a1 _ hF.c hf rfl
def jK (n:Nat):Ty (Q LA) where
 size:=n
 R:=fun _ _ cs x=>cs=x/\x.length=n/\∀ u∈x,u.oneCell'=M
 O:=fun _ cs x S=>cs=x/\x.length=n/\(∀ u∈x,u.oneCell'=M)/\S = []
 kz:=by rintro _ _ _ _ ⟨rfl,h,_⟩;exact h
 iZ:=by rintro _ _ _ _ ⟨rfl,h,_⟩;exact h
 kO:=by rintro _ _ _ _ ⟨rfl,_,h,_⟩;exact h
 ld:=by rintro _ _ _ _ ⟨rfl,_,h⟩;exact h
 iR:=by rintro _ _ _ _ _ _ h _ _;exact h
 hJ:=by rintro _ _ _ _ _ h _;exact h
 jB:=by rintro _ _ _ _ ⟨_,_,_,rfl⟩ k hk;simp at hk
 OR:=by rintro _ _ _ _ _ ⟨h1,h2,h3,_⟩ _;exact⟨h1,h2,h3⟩
theorem tt (n:Nat):kK (jK n):=fun⟨h1,h2,h3⟩ _=>⟨h1,h2,h3,rfl⟩
theorem G3:(prog.info? 244).map (fun i=>(i.zero,i.size,i.bytes))=H (H (.agg #[F I 0,J V 0 0,J V 0 0,F I 0,X U,J V 0 0]),6,96):=by kernel_rfl
theorem Eb:iI prog 240 244 (jK 6) 96:=by
 obtain⟨i0,hi,a0,a1,a2⟩:=Nf G3;exact⟨underlying240,⟨i0,_,hi,a0,a1,a2,rfl⟩,by decide⟩
structure ig where
 E:gd
 b:gC
 A:K Mh
 c:Nat
 g:Nat
 Y:N
structure iD (P:ig)(m:fW)(rows:Q (Q LA))(W:N)(Ai:K Mh)(ci:Nat)(Si:Q Nat)(As:K Mh)(cs:Nat)(Ss:Q Nat):Prop where
 box:W.heap[P.g]?=H (C #[J P.A P.E.p.length P.c,F I P.b.Frames,F I P.E.inl,X P.b.Fold,X P.b.Split,X P.E.gm,F I P.E.words,F I m.gK,F I P.E.args,F I m.depth,J Ai m.items.length ci,J As rows.length cs,X m.start] 242 (0,0))
 its:Has (lL.sl 131) W [J Ai m.items.length ci] m.items Si
 mu:Has ((jK 6).sl 244) W [J As rows.length cs] rows Ss
 kZ:∀ b∈Si,b∉Ss
 gn:P.g∉Si/\P.g∉Ss
 fO:fF P.Y W
 low:P.Y.heap.size<=P.g/\(∀ b∈Si,P.Y.heap.size<=b)/\∀ b∈Ss,P.Y.heap.size<=b
def jk (P:ig)(m:fW)(rows:Q (Q LA))(W:N)(L:Q Nat):Prop:=
 ∃ Ai ci Si As cs Ss,iD P m rows W Ai ci Si As cs Ss/\L=P.g::(Si++Ss)
def gI (P:ig)(m':fW)(rows':Q (Q LA))(W:N)(L:Q Nat)(W':N):Prop:=
 ∃ L',jk P m' rows' W' L'/\fJ L W W'/\∀ b∈L',b∈L∨W.heap.size<=b
theorem mC {g:Nat} {o0 o1 o2 o3 o4 o5 o6 o7 o8 o9 o10 o11 o12:LA} {e:TypeId} (h:W.heap[g]?=H (C #[o0,o1,o2,o3,o4,o5,o6,o7,o8,o9,o10,o11,o12] e (0,0))) :
  Lg W ⟨g,0,V⟩=H o0/\Lg W ⟨g,1,V⟩=H o1/\Lg W ⟨g,2,V⟩=H o2/\Lg W ⟨g,3,V⟩=H o3/\Lg W ⟨g,4,V⟩=H o4/\Lg W ⟨g,5,V⟩=H o5/\Lg W ⟨g,6,V⟩=H o6/\Lg W ⟨g,7,V⟩=H o7/\Lg W ⟨g,8,V⟩=H o8/\Lg W ⟨g,9,V⟩=H o9/\Lg W ⟨g,10,V⟩=H o10/\Lg W ⟨g,11,V⟩=H o11/\Lg W ⟨g,12,V⟩=H o12/\(∀ j,LD W ⟨g,j,V⟩=U)/\g<W.heap.size:=by
 refine⟨?_,?_,?_,?_,?_,?_,?_,?_,?_,?_,?_,?_,?_,fun j=>by simp[LD,h],(blt h)⟩
 all_goals
  rw[MD W g _ _ _ (0,0) h]
  rfl
theorem fJ.then {S1:Q Nat} {a b c:N} (h:fJ S a b)(k:fJ S1 b c)(hs:∀ x∈S1,x∈S∨a.heap.size<=x):fJ S a c:=
 ⟨k.os.trans h.os,k.tape.trans h.tape,k.output.trans h.output,LO h.size k.size,fun i hi hn=>(k.block i (Li hi h.size) (fun hm=>(hs i hm).elim hn (fun hh=>by omega))).trans (h.block i hi hn)⟩
theorem jk.iX {P:ig} (h:jk P m rows W L):P.g∈L/\P.g<W.heap.size/\(∀ b∈L,b<W.heap.size)/\(∀ b∈L,P.Y.heap.size<=b)/\fF P.Y W:=by
 obtain⟨Ai,ci,Si,As,cs,Ss,h,rfl⟩:=h;have hg:=(blt h.box)
 refine⟨by simp,hg,fun b hb=>?_,fun b hb=>?_,h.fO⟩
 ·rcases LU.1 hb with rfl | hb
  ·exact hg
  ·rcases LG.1 hb with hb | hb
   ·exact h.its.lt b hb
   ·exact h.mu.lt b hb
 ·rcases LU.1 hb with rfl | hb
  ·exact h.low.1
  ·rcases LG.1 hb with hb | hb
   ·exact h.low.2.1 b hb
   ·exact h.low.2.2 b hb
theorem gI.refl {P:ig}{m:fW}{rows:Q (Q LA)}{W:N}{L:Q Nat}(h:jk P m rows W L):gI P m rows W L W:=
 ⟨L,h,fJ.refl _ _,fun _ hb=>.inl hb⟩
theorem mS {g:Prop} (f:g:=by
  obtain⟨L2,h2,ho2,hl2⟩:=k
  refine⟨L2,h2,ho.then ho2 hl,fun b hb=>?_⟩
  rcases hl2 b hb with hb | hb
  ·exact hl b hb
  ·exact .inr (LO ho.size hb)):g:=f
theorem gI.trans {P:ig} {m1 m2:fW} {r1 r2:Q (Q LA)} {W1 W2:N} {L1:Q Nat} (_h:jk P m1 r1 W1 L1)(ho:fJ L W W1)(hl:∀ b∈L1,b∈L∨W.heap.size<=b)(k:gI P m2 r2 W1 L1 W2):gI P m2 r2 W L W2:=by
 exact mS
theorem jk.fO {P:ig}{m:fW}{rows:Q (Q LA)}{W W':N}{L:Q Nat}(h:jk P m rows W L)(hg:fF W W'):jk P m rows W' L:=by
 obtain⟨Ai,ci,Si,As,cs,Ss,h,rfl⟩:=h;exact⟨Ai,ci,Si,As,cs,Ss,⟨zj h.box hg,h.its.fO hg,h.mu.fO hg,h.kZ,h.gn,h.fO.trans hg,h.low⟩,rfl⟩
theorem jk.cells {P:ig} (h:jk P m rows W L):∃ Ai ci As cs,
  Lg W ⟨P.g,0,V⟩=H (J P.A P.E.p.length P.c)/\Lg W ⟨P.g,1,V⟩=H (F I P.b.Frames)/\Lg W ⟨P.g,2,V⟩=H (F I P.E.inl)/\Lg W ⟨P.g,5,V⟩=H (X P.E.gm)/\Lg W ⟨P.g,6,V⟩=H (F I P.E.words)/\Lg W ⟨P.g,7,V⟩=H (F I m.gK)/\Lg W ⟨P.g,8,V⟩=H (F I P.E.args)/\Lg W ⟨P.g,9,V⟩=H (F I m.depth)/\Lg W ⟨P.g,10,V⟩=H (J Ai m.items.length ci)/\Lg W ⟨P.g,11,V⟩=H (J As rows.length cs)/\Lg W ⟨P.g,12,V⟩=H (X m.start)/\(∀ j,LD W ⟨P.g,j,V⟩=U)/\P.g<W.heap.size:=by
 obtain⟨Ai,ci,Si,As,cs,Ss,h,rfl⟩:=h;obtain⟨z0,z1,z2,z3,z4,z5,z6,z7,z8,z9,a0,a1,a2,zf,zl⟩:=mC h.box;exact⟨Ai,ci,As,cs,z0,z1,z2,z5,z6,z7,z8,z9,a0,a1,a2,zf,zl⟩
theorem jk.num {P:ig} (h:jk P m rows W L){i:Nat}{v:LA}(hi:m'.items=m.items)
  (hrow:∀ a b c d e f g x y,(#[a,b,c,d,e,f,g,F I m.gK,F I P.E.args,F I m.depth,x,y,X m.start]:Array LA).setIfInBounds i v=#[a,b,c,d,e,f,g,F I m'.gK,F I P.E.args,F I m'.depth,x,y,X m'.start]) :
  jk P m' rows (W.setCell ⟨P.g,i,V⟩ v) L/\fJ L W (W.setCell ⟨P.g,i,V⟩ v):=by
 obtain⟨Ai,ci,Si,As,cs,Ss,h,rfl⟩:=h;have a0:fJ [P.g] W (W.setCell ⟨P.g,i,V⟩ v):=(fJ.refl _ _).setCell (p:=⟨P.g,i,V⟩) (by simp) _;refine⟨⟨Ai,ci,Si,As,cs,Ss,⟨jo (i:=i) (v:=v) h.box (by rw[hrow,hi]),?_,?_,h.kZ,h.gn,a0.fO h.fO (fun b hb=>by simp at hb;exact hb ▸ h.low.1),h.low⟩,rfl⟩,a0.mono (by simp)⟩
 ·rw[hi]
  exact h.its.fU a0 (fun x hx hm=>by simp at hm;exact h.gn.1 (hm ▸ hx))
 ·exact h.mu.fU a0 (fun x hx hm=>by simp at hm;exact h.gn.2 (hm ▸ hx))
theorem jk.arg {P:ig} (h:jk P m rows W L){j:Nat}{x:fS}(hx:m.items[j]?=H x) :
  ∃ gi ci,Lg W ⟨P.g,10,V⟩=H (J (H ⟨gi,0,V⟩) m.items.length ci)/\gi<W.heap.size/\gi≠P.g/\(∀ k,LD W ⟨gi,k,V⟩=U)/\Lg W ⟨gi,j*7+1,V⟩=H (F I x.Op.Arg)/\
   ∀ v,fV v->jk P (m.gU (zL m.items j v)) rows (W.setCell ⟨gi,j*7+1,V⟩ (F I v)) L/\fJ L W (W.setCell ⟨gi,j*7+1,V⟩ (F I v)):=by
 obtain⟨Ai,ci,Si,As,cs,Ss,h,rfl⟩:=h;obtain⟨gi,ec,Sc,rfl,a8,a9,ac,aa,ad,hO,a7,a0,a1,_⟩:=mN h.its.1 h.its.2 hx;obtain⟨A0,c0,S0,rfl,a5,b0,b1,b2,a4,b4⟩:=Aw hO;subst a5;have hz:lL.size=7:=rfl;rw[hz] at a0 a1;have a6:=a0 1 _ rfl;obtain⟨z0,z1,z2,z3,z4,z5,z6,z7,z8,z9,ab,ae,af,zf,zl⟩:=mC h.box;refine⟨gi,ci,ab,a9,fun e=>h.gn.1 (e ▸ a8),a7,a6,fun v hv=>?_⟩;have hp:=a1 1 (F I v) { x with Op:=⟨x.Op.Code,v⟩ } (by decide) rfl (tm (x:={ x with Op:=⟨x.Op.Code,v⟩ }) A0 c0 Sc b0 hv b2 a4 b4);have a2:zL m.items j v=m.items.set j { x with Op:=⟨x.Op.Code,v⟩ }:=by unfold zL;rw[hx]
 have a3:(m.items.set j { x with Op:=⟨x.Op.Code,v⟩ }).length=m.items.length:=Ma ..;refine⟨⟨H ⟨gi,0,V⟩,ci,Si,As,cs,Ss,⟨?_,?_,h.mu.fU hp.2 (fun b hb hm=>h.kZ b hm hb),h.kZ,h.gn,hp.2.fO h.fO h.low.2.1,h.low⟩,rfl⟩,hp.2.mono (fun b hb=>by simp[hb])⟩
 ·have hm:=(hp.2.block P.g (blt h.box) h.gn.1).trans h.box
  simp only[fW.gU,a2,a3];exact hm
 ·simp only[fW.gU,a2,a3]
  exact⟨hp.1,h.its.2⟩
theorem Ey {e:TypeId} {A:K Mh} {c k:Nat} {xs:Q (Q LA)} {r:Q LA} (h:Has ((jK n).sl e) W [J A xs.length c] xs S)(hr:xs[k]?=H r) :
  ∃ g,A=H ⟨g,0,V⟩/\g∈S/\g<W.heap.size/\(∀ j,LD W ⟨g,j,V⟩=U)/\r.length=n/\(∀ j u,r[j]?=H u->Lg W ⟨g,k*n+j,V⟩=H u)/\
   ∀ j u,j<n->u.oneCell'=M->Has ((jK n).sl e) (W.setCell ⟨g,k*n+j,V⟩ u) [J A xs.length c] (xs.set k (r.set j u)) S/\fJ S W (W.setCell ⟨g,k*n+j,V⟩ u):=by
 obtain⟨g,ec,Sc,rfl,a3,a4,a6,a5,a7,hO,a2,a0,a1,_⟩:=mN h.1 h.2 hr;obtain⟨rfl,hl,ho,rfl⟩:=hO;refine⟨g,rfl,a3,a4,a2,hl,fun j u hu=>a0 j u hu,fun j u hj hu=>?_⟩;have hp:=a1 j u (ec.set j u) hj hu ⟨rfl,by rw[Ma];exact hl,fun v hv=>?_,rfl⟩
 ·exact⟨⟨hp.1,h.2⟩,hp.2⟩
 ·rcases List.mem_or_eq_of_mem_set hv with hv | rfl
  ·exact ho v hv
  ·exact hu
theorem iD.fU {P:ig}{m:fW}{rows:Q (Q LA)}{W W':N}{Ai As:K Mh}{ci cs:Nat}{Si Ss S:Q Nat}(h:iD P m rows W Ai ci Si As cs Ss)(ho:fJ S W W')(hS:∀ b∈S,b≠P.g/\b∉Si/\b∉Ss/\P.Y.heap.size<=b):iD P m rows W' Ai ci Si As cs Ss:=
 ⟨(ho.block P.g (blt h.box) (fun hm=>(hS _ hm).1 rfl)).trans h.box,h.its.fU ho (fun b hb hm=>(hS b hm).2.1 hb),h.mu.fU ho (fun b hb hm=>(hS b hm).2.2.1 hb),h.kZ,h.gn,ho.fO h.fO (fun b hb=>(hS b hb).2.2.2),h.low⟩
theorem iD.grow {P:ig} (h:iD P m rows W Ai ci Si As cs Ss)(hg:fF W W'):iD P m rows W' Ai ci Si As cs Ss:=
 ⟨zj h.box hg,h.its.fO hg,h.mu.fO hg,h.kZ,h.gn,h.fO.trans hg,h.low⟩
theorem iD.num {P:ig} (h:iD P m rows W Ai ci Si As cs Ss){i:Nat}{v:LA}(hi:m'.items=m.items)
  (hrow:∀ a b c d e f g x y,(#[a,b,c,d,e,f,g,F I m.gK,F I P.E.args,F I m.depth,x,y,X m.start]:Array LA).setIfInBounds i v=#[a,b,c,d,e,f,g,F I m'.gK,F I P.E.args,F I m'.depth,x,y,X m'.start]) :
  iD P m' rows (W.setCell ⟨P.g,i,V⟩ v) Ai ci Si As cs Ss/\fJ [P.g] W (W.setCell ⟨P.g,i,V⟩ v):=by
 have a0:fJ [P.g] W (W.setCell ⟨P.g,i,V⟩ v):=(fJ.refl _ _).setCell (p:=⟨P.g,i,V⟩) (by simp) _;refine⟨⟨jo (i:=i) (v:=v) h.box (by rw[hrow,hi]),?_,?_,h.kZ,h.gn,a0.fO h.fO (fun b hb=>by simp at hb;exact hb ▸ h.low.1),h.low⟩,a0⟩
 ·rw[hi]
  exact h.its.fU a0 (fun x hx hm=>by simp at hm;exact h.gn.1 (hm ▸ hx))
 ·exact h.mu.fU a0 (fun x hx hm=>by simp at hm;exact h.gn.2 (hm ▸ hx))
theorem iD.items {P:ig} {A':K Mh} {c':Nat} {Sy S':Q Nat} {its':Q fS} (h:iD P m rows W Ai ci Si As cs Ss)
  (hy:∀ b∈Sy,b≠P.g/\b∉Ss/\P.Y.heap.size<=b) (hon:fJ Si W W') (hH:Has (lL.sl 131) W' [J A' its'.length c'] its' S') (hS:∀ b∈S',b∈Si∨b∈Sy∨W.heap.size<=b) :
  iD P (m.gU its') rows (W'.setCell ⟨P.g,10,V⟩ (J A' its'.length c')) A' c' S' As cs Ss/\fJ (P.g::(Si++Ss)) W (W'.setCell ⟨P.g,10,V⟩ (J A' its'.length c')):=by
 have a4:=(blt h.box)
 have a3:=(hon.block P.g a4 h.gn.1).trans h.box;have a0:fJ [P.g] W' (W'.setCell ⟨P.g,10,V⟩ (J A' its'.length c')):=(fJ.refl _ _).setCell (p:=⟨P.g,10,V⟩) (by simp) _;have a6:=h.fO.size
 have a1:P.g∉S':=fun hm=>by
  rcases hS _ hm with h1 | h1 | h1
  ·exact h.gn.1 h1
  ·exact(hy _ h1).1 rfl
  ·omega
 have a2:∀ b∈S',b∉Ss:=fun b hb hm=>by
  rcases hS b hb with h1 | h1 | h1
  ·exact h.kZ b h1 hm
  ·exact(hy b h1).2.1 hm
  ·have:=h.mu.lt b hm;omega
 have a5:∀ b∈S',P.Y.heap.size<=b:=fun b hb=>by
  rcases hS b hb with h1 | h1 | h1
  ·exact h.low.2.1 b h1
  ·exact(hy b h1).2.2
  ·omega
 refine⟨⟨jo (i:=10) (v:=J A' its'.length c') a3 rfl,hH.fU a0 (fun b hb hm=>by simp at hm;exact a1 (hm ▸ hb)),(h.mu.fU hon (fun b hb hm=>h.kZ b hm hb)).fU a0 (fun b hb hm=>by simp at hm;exact h.gn.2 (hm ▸ hb)),a2,⟨a1,h.gn.2⟩,a0.fO (hon.fO h.fO h.low.2.1) (fun b hb=>by simp at hb;exact hb ▸ h.low.1),⟨h.low.1,a5,h.low.2.2⟩⟩,?_⟩;exact(hon.mono (fun b hb=>by simp[hb])).trans (a0.mono (fun b hb=>by simp at hb;simp[hb]))
theorem rD {g:Prop} (f:g:=by
  try simp only[lay]
  refine fX.jj (i:=10) (by kernel_rfl) rfl (fun Le hK=>?_)
  ·refine uv (L:=chain.length) rfl (.tmp 19) (.tmp 20) kJ zP HJ.ha (Ty.up _ hc HJ.hg) rfl rfl rfl (Mb _).symm (by omega) (by omega) ?_
   intro B1 d1 W1 S1 hon hH hS
   rw[Mw] at hH
   have HJ:=HJ.nj hon hH hS
   refine hK.out _ _ (HJ.cell z12) ?_
   clear hK
   try simp only[lay]
   refine .tq 11 [13] (HJ.cell z12) ?_
   obtain⟨o0,o1,o2,o3,o4,o5,o6,of,ol⟩:=mr HJ.ho
   refine fX.last (by kernel_rfl) rfl (by kernel_rfl) (fun Le hK=>?_)
   go_simp
   refine hK.out _ _ ?_
   clear hK
   try simp only[lay]
   have h2:=Ez HJ.ho (F I code) (F I arg) (F I line) (X m.start) (J B1 chain.length d1) (F I 0) (X U)
   have HJ:=HJ.store h2.2 h2.1 hgo
   go_wp2_with(fail)
   go_meet
   exact⟨_,B1,d1,S1,rfl,HJ,hgo⟩):g:=f
theorem se {g:Prop} (f:g:=by
  rcases LU.1 hb with h | hb
  ·exact .inl (by simp[h])
  ·rcases LG.1 hb with hb | hb
   ·rcases hS7 b hb with h | h | h
    ·exact .inl (by simp[h])
    ·exact .inr (hlW b h)
    ·exact .inr (by omega)
   ·exact .inl (by simp[hb])):g:=f
theorem zek {P:ig} {arg:Int} {Ac:K Mh} {cc:Nat} (h:jk P m rows W L)
  (hc:(zF.sl 3).R W W.heap.size [J Ac chain.length cc] chain) (hcl:chain.length<=1000) (hln:m.items.length<=100000) (b0:fV code) (b1:fV arg) (b2:fV line) (b3:fV m.depth) :
  LR prog 221 #[.pointer (H ⟨P.g,0,V⟩),F I code,F I arg,F I line,J Ac chain.length cc] W fun r W'=>r=.returned (.tuple #[])/\gI P (zv P.E m code arg line chain) rows W L W':=by
 obtain⟨Ai,ci,Si,As,cs,Ss,hB,rfl⟩:=h;obtain⟨z0,z1,z2,z3,z4,z5,z6,z7,z8,z9,ad,ai,z12,zf,zl⟩:=mC hB.box;go_enter func221,ntmps221;go_upto_region 0 with(fail);go_cut [10] from 10 to 22 (fun v wx=>∃(g3:Nat) (B1:K Mh) (d1:Nat) (S1:Q Nat),v=.pointer (H ⟨g3,0,V⟩)/\J3 zF zF 3 3 W wx (J B1 chain.length d1) (J V 0 0) chain [] S1 [] g3 (C #[F I code,F I arg,F I line,X m.start,J B1 chain.length d1,F I 0,X U] 131 (0,0))/\W.heap.size<=g3)
 case first=>
  refine kC (fun w'=>Lg w' ⟨P.g,12,V⟩=H (X m.start)) 13 (by kernel_rfl) (zb z12) (fun hH=>?_);have HJ:=J3.start (T:=zF) (K8:=zF) (e:=3) (f:=3) hB.box;have HJ:=HJ.fO ((fF.refl _).drew);generalize hYd:W.drew=Wx at HJ hH |-;clear hYd;refine .tq 0 [13] hH ?_;refine .tq 1 [13] hH ?_;refine .tq 2 [13] hH ?_;refine .tq 3 [13] hH ?_;refine .tq 4 [13] hH ?_;refine .tq 5 [13] hH ?_;refine .tq 6 [13] hH ?_;refine .tq 7 [13] hH ?_;refine .tq 9 [13] hH ?_;refine fX.qG (i:=8) (j:=12) (by kernel_rfl) rfl rfl (fun Le hK=>?_) (fun Le hK=>?_)
  ·go_simp
   have HJ:=HJ.lz;refine hK.out _ _ (HJ.cell z12) ?_;clear hK;generalize World.alloc _ (C #[] 3)=Wx at HJ |-
   try simp only[lay]
   refine fX.qG (i:=10) (j:=12) (by kernel_rfl) rfl rfl (fun Le hK=>?_) (fun Le hK=>?_)
   ·refine uv (L:=chain.length) rfl (.tmp 19) (.tmp 20) kJ zP HJ.ha (Ty.up _ hc HJ.hg) rfl rfl rfl (Mb _).symm (by omega) (by omega) ?_
    intro B1 d1 W1 S1 hon hH hS;rw[Mw] at hH;have HJ:=HJ.nj hon hH hS;refine hK.out _ _ (HJ.cell z12) ?_;clear hK
    try simp only[lay]
    refine .tq 11 [13] (HJ.cell z12) ?_;refine fX.jj (i:=12) (by kernel_rfl) rfl (fun Le hK=>?_)
    ·go_simp
     have hgo:=HJ.hg.size;have HJ:=HJ.kN (cs:=#[F I 0,F I 0,F I 0,X U,J V 0 0,F I 0,X U]) (t:=131);refine hK.out _ _ (HJ.cell z12) ?_;clear hK;generalize World.alloc _ (C #[F I 0,F I 0,F I 0,X U,J V 0 0,F I 0,X U] 131)=Wx at HJ |-
     try simp only[lay]
     obtain⟨o0,o1,o2,o3,o4,o5,o6,of,ol⟩:=mr HJ.ho;refine fX.last (by kernel_rfl) rfl (by kernel_rfl) (fun Le hK=>?_);go_simp;refine hK.out _ _ ?_;clear hK
     try simp only[lay]
     have h2:=Ez HJ.ho (F I code) (F I arg) (F I line) (X m.start) (J B1 chain.length d1) (F I 0) (X U);have HJ:=HJ.store h2.2 h2.1 hgo;go_wp2_with(fail);go_meet;exact⟨_,B1,d1,S1,rfl,HJ,hgo⟩
   ·go_simp
    have hgo:=HJ.hg.size;have HJ:=HJ.kN (cs:=#[F I 0,F I 0,F I 0,X U,J V 0 0,F I 0,X U]) (t:=131);refine hK.out _ _ (HJ.cell z12) ?_;clear hK;generalize World.alloc _ (C #[F I 0,F I 0,F I 0,X U,J V 0 0,F I 0,X U] 131)=Wx at HJ |-;exact rD
  ·go_simp
   have hgo:=HJ.hg.size;have HJ:=HJ.kN (cs:=#[F I 0,F I 0,F I 0,X U,J V 0 0,F I 0,X U]) (t:=131);refine hK.out _ _ (HJ.cell z12) ?_;clear hK;generalize World.alloc _ (C #[F I 0,F I 0,F I 0,X U,J V 0 0,F I 0,X U] 131)=Wx at HJ |-
   try simp only[lay]
   refine fX.jj (i:=8) (by kernel_rfl) rfl (fun Le hK=>?_)
   ·go_simp
    have HJ:=HJ.lz;refine hK.out _ _ (HJ.cell z12) ?_;clear hK;generalize World.alloc _ (C #[] 3)=Wx at HJ |-;exact rD
 case rest=>
  obtain⟨g3,B1,d1,S1,rfl,HJ,an⟩:=hcut;have aj:=hB.grow HJ.hg;have ak:=hB;have ax:=(blt hB.box)
  have ay:P.g≠g3:=by omega
  have ac:g3≠P.g:=by omega
  have ab:∀ b∈[g3],b≠P.g/\b∉Si/\b∉Ss/\P.Y.heap.size<=b:=fun b hb=>by
   simp at hb;subst hb;exact⟨ac,fun hm=>by have:=hB.its.lt _ hm;omega,fun hm=>by have:=hB.mu.lt _ hm;omega,by have:=hB.low.1;omega⟩
  obtain⟨o0,o1,o2,o3,o4,o5,o6,of,ol⟩:=mr HJ.ho;clear z0 z1 z2 z3 z4 z5 z6 z7 z8 z9 ad ai z12 zf zl;obtain⟨z0,z1,z2,z3,z4,z5,z6,z7,z8,z9,ad,ai,z12,zf,zl⟩:=mC aj.box;clear hB
  obtain⟨x,hx,av⟩:∃ x,mD P.E m code arg line chain=x/\((P.E.gm=M/\0<m.items.length/\x=⟨⟨code,arg⟩,line,m.start,chain,0,M⟩)∨(P.E.gm=M/\¬ 0<m.items.length/\x=⟨⟨code,arg⟩,line,m.start,chain,m.depth,U⟩)∨(P.E.gm=U/\True/\x=⟨⟨code,arg⟩,line,m.start,chain,m.depth,U⟩)):=by
   refine⟨_,rfl,?_⟩;by_cases a6:P.E.gm=M
   ·by_cases h0:0<m.items.length
    ·exact .inl ⟨a6,h0,by unfold mD;simp[a6,h0]⟩
    ·exact .inr (.inl ⟨a6,h0,by unfold mD;simp[h0]⟩)
   ·have ag:P.E.gm=U:=by simpa using a6
    exact .inr (.inr ⟨ag,trivial,by unfold mD;simp[ag]⟩)
  rcases av with⟨a6,h0,a7⟩ | ⟨a6,h0,a7⟩ | ⟨a6,h0,a7⟩
  all_goals rw[a6] at z5
  case' inl=>
   have ao:(m.items.length:Int) > 0:=by omega
   have ap:0<(m.items.length:Int):=by omega
   have e1:=jo (i:=6) (v:=X M) HJ.ho rfl;have a4:fJ [g3] wc (wc.setCell ⟨g3,6,V⟩ (X M)):=(fJ.refl _ _).setCell (p:=⟨g3,6,V⟩) (by simp) _;have ae:=aj.fU a4 ab;obtain⟨a3,a5⟩:=ae.num (i:=12) (v:=X U) (m':=⟨m.items,m.depth,m.gK,U⟩) rfl (fun _ _ _ _ _ _ _ _ _=>rfl);have e2:=(a5.block g3 (blt e1) (by simpa using ac)).trans e1;have a8:fJ (P.g::(Si++Ss)) W ((wc.setCell ⟨g3,6,V⟩ (X M)).setCell ⟨P.g,12,V⟩ (X U)):=((HJ.hg.only _).then (a4.mono (S':=[g3]) (fun _ h=>h)) (fun b hb=>by simp at hb;subst hb;exact .inr an)).then (a5.mono (S':=[P.g]) (fun _ h=>h)) (fun b hb=>by simp at hb;subst hb;exact .inl (by simp));have a9:=(HJ.ha.fU a4 (fun b hb hm=>by simp at hm;exact HJ.oe (hm ▸ hb))).fU a5 (fun b hb hm=>by simp at hm;subst hm;have:=HJ.la _ hb;omega)
   have aa:Has lL ((wc.setCell ⟨g3,6,V⟩ (X M)).setCell ⟨P.g,12,V⟩ (X U)) [F I x.Op.Code,F I x.Op.Arg,F I x.fN,X x.Start,J B1 x.fH.length d1,F I x.fK,X x.fI] x S1:=by
    subst a7;exact⟨tm B1 d1 S1 b0 b1 b2 a9.1 ((⟨by decide,by decide⟩:fV 0)),a9.2⟩
   have e5:((wc.setCell ⟨g3,6,V⟩ (X M)).setCell ⟨P.g,12,V⟩ (X U)).heap[g3]?=H (C #[F I x.Op.Code,F I x.Op.Arg,F I x.fN,X x.Start,J B1 x.fH.length d1,F I x.fK,X x.fI] 131 (0,0)):=by subst a7;exact e2
   clear a7 e1 a4 ae a5 e2 a9;go_upto_region 5 with(fail);generalize ((wc.setCell _ _).setCell _ _)=W5 at a3 a8 aa e5 |-
  case' inr.inl=>
   have ao:¬ ((m.items.length:Int) > 0):=by omega
   have ap:¬ (0<(m.items.length:Int)):=by omega
  case' inr.inl | inr.inr=>
   have e1:=jo (i:=5) (v:=F I m.depth) HJ.ho rfl;have a4:fJ [g3] wc (wc.setCell ⟨g3,5,V⟩ (F I m.depth)):=(fJ.refl _ _).setCell (p:=⟨g3,5,V⟩) (by simp) _;have ae:=aj.fU a4 ab;obtain⟨a3,a5⟩:=ae.num (i:=12) (v:=X U) (m':=⟨m.items,m.depth,m.gK,U⟩) rfl (fun _ _ _ _ _ _ _ _ _=>rfl);have e2:=(a5.block g3 (blt e1) (by simpa using ac)).trans e1;have a8:fJ (P.g::(Si++Ss)) W ((wc.setCell ⟨g3,5,V⟩ (F I m.depth)).setCell ⟨P.g,12,V⟩ (X U)):=((HJ.hg.only _).then (a4.mono (S':=[g3]) (fun _ h=>h)) (fun b hb=>by simp at hb;subst hb;exact .inr an)).then (a5.mono (S':=[P.g]) (fun _ h=>h)) (fun b hb=>by simp at hb;subst hb;exact .inl (by simp));have a9:=(HJ.ha.fU a4 (fun b hb hm=>by simp at hm;exact HJ.oe (hm ▸ hb))).fU a5 (fun b hb hm=>by simp at hm;subst hm;have:=HJ.la _ hb;omega)
   have aa:Has lL ((wc.setCell ⟨g3,5,V⟩ (F I m.depth)).setCell ⟨P.g,12,V⟩ (X U)) [F I x.Op.Code,F I x.Op.Arg,F I x.fN,X x.Start,J B1 x.fH.length d1,F I x.fK,X x.fI] x S1:=by
    subst a7;exact⟨tm B1 d1 S1 b0 b1 b2 a9.1 (b3),a9.2⟩
   have e5:((wc.setCell ⟨g3,5,V⟩ (F I m.depth)).setCell ⟨P.g,12,V⟩ (X U)).heap[g3]?=H (C #[F I x.Op.Code,F I x.Op.Arg,F I x.fN,X x.Start,J B1 x.fH.length d1,F I x.fK,X x.fI] 131 (0,0)):=by subst a7;exact e2
   clear a7 e1 a4 ae a5 e2 a9;go_upto_region 5 with(fail);generalize ((wc.setCell _ _).setCell _ _)=W5 at a3 a8 aa e5 |-
  all_goals
   have HX:=fE hx
   clear hx
   have hlW:∀ b∈S1,W.heap.size<=b:=HJ.la
   have al:∀ b∈Si,b∉S1:=fun b hb hm=>by have h1:=HJ.la b hm;have h2:=ak.its.lt b hb;omega
   have hy:∀ b∈S1,b≠P.g/\b∉Ss/\P.Y.heap.size<=b:=fun b hb=>⟨fun h=>by have h1:=HJ.la b hb;omega,fun hm=>by have h1:=HJ.la b hb;have h2:=ak.mu.lt b hm;omega,by have h1:=HJ.la b hb;have h2:=ak.fO.size;omega⟩
   have a1:g3∉Si:=fun hm=>(ab g3 (by simp)).2.1 hm
   clear HJ aj
   clear z0 z1 z2 z3 z4 z5 z6 z7 z8 z9 ad ai z12 zf zl o0 o1 o2 o3 o4 o5 o6 of ol
   obtain⟨z0,z1,z2,z3,z4,z5,z6,z7,z8,z9,ad,ai,z12,zf,zl⟩:=mC a3.box
   obtain⟨q0,q1,q2,q3,q4,q5,q6,qf,ql⟩:=mr e5
   have ah:Lg W5 ⟨P.g,10,V⟩=H (J Ai m.items.length ci):=ad
   clear z0 z1 z2 z3 z4 z5 z6 z7 z8 z9 ad ai z12 zf zl qf ql
   refine kC (fun w'=>Lg w' ⟨P.g,10,V⟩=H (J Ai m.items.length ci)/\Lg w' ⟨g3,0,V⟩=H (F I x.Op.Code)/\Lg w' ⟨g3,1,V⟩=H (F I x.Op.Arg)/\Lg w' ⟨g3,2,V⟩=H (F I x.fN)/\Lg w' ⟨g3,3,V⟩=H (X x.Start)/\Lg w' ⟨g3,4,V⟩=H (J B1 x.fH.length d1)/\Lg w' ⟨g3,5,V⟩=H (F I x.fK)/\Lg w' ⟨g3,6,V⟩=H (X x.fI)) 10 (by kernel_rfl) ⟨zb ah,zb q0,zb q1,zb q2,zb q3,zb q4,zb q5,zb q6⟩ (fun a2=>?_)
   have a3:=a3.grow ((fF.refl W5).drew)
   have aa:=aa.fO ((fF.refl W5).drew)
   have a8:=a8.trans (((fF.refl W5).drew).only _)
   clear ah q0 q1 q2 q3 q4 q5 q6 e5
   generalize W5.drew=Wd at a3 aa a8 a2 |-
   have au:=a2
   obtain⟨ah,q0,q1,q2,q3,q4,q5,q6⟩:=au
   refine .tq 0 [10] a2 ?_
   refine .tq 1 [10] a2 ?_
   refine .tq 2 [10] a2 ?_
   refine .tq 3 [10] a2 ?_
   refine .tq 4 [10] a2 ?_
   refine .tq 5 [10] a2 ?_
   refine fX.jj (i:=6) (by kernel_rfl) rfl (fun Le hK=>?_)
   ·go_simp
    have a2:=Ls (zo ah (C #[F I x.Op.Code,F I x.Op.Arg,F I x.fN,X x.Start,J B1 x.fH.length d1,F I x.fK,X x.fI] 131)) (Ls (zo q0 (C #[F I x.Op.Code,F I x.Op.Arg,F I x.fN,X x.Start,J B1 x.fH.length d1,F I x.fK,X x.fI] 131)) (Ls (zo q1 (C #[F I x.Op.Code,F I x.Op.Arg,F I x.fN,X x.Start,J B1 x.fH.length d1,F I x.fK,X x.fI] 131)) (Ls (zo q2 (C #[F I x.Op.Code,F I x.Op.Arg,F I x.fN,X x.Start,J B1 x.fH.length d1,F I x.fK,X x.fI] 131)) (Ls (zo q3 (C #[F I x.Op.Code,F I x.Op.Arg,F I x.fN,X x.Start,J B1 x.fH.length d1,F I x.fK,X x.fI] 131)) (Ls (zo q4 (C #[F I x.Op.Code,F I x.Op.Arg,F I x.fN,X x.Start,J B1 x.fH.length d1,F I x.fK,X x.fI] 131)) (Ls (zo q5 (C #[F I x.Op.Code,F I x.Op.Arg,F I x.fN,X x.Start,J B1 x.fH.length d1,F I x.fK,X x.fI] 131)) (zo q6 (C #[F I x.Op.Code,F I x.Op.Arg,F I x.fN,X x.Start,J B1 x.fH.length d1,F I x.fK,X x.fI] 131))))))));refine hK.out _ _ a2 ?_;clear hK
    try simp only[lay]
    refine fX.jj (i:=7) (by kernel_rfl) rfl (fun Le hK=>?_)
    ·have a0:fF Wd (Wd.alloc (C #[F I x.Op.Code,F I x.Op.Arg,F I x.fN,X x.Start,J B1 x.fH.length d1,F I x.fK,X x.fI] 131)):=(fF.refl _).alloc _
     refine xk (L:=m.items.length+1) rfl (.tmp 48) (.tmp 50) Eu (a3.its.fO a0) (aa.fO a0) al rfl rfl rfl (by intro j u hu;simpa[go_sem] using hu) rfl (by omega) (by omega) ?_;intro A7 c7 W7 S7 hon aq hS7;have a2:=Ls (kG ah a0 hon a3.gn.1) (Ls (kG q0 a0 hon a1) (Ls (kG q1 a0 hon a1) (Ls (kG q2 a0 hon a1) (Ls (kG q3 a0 hon a1) (Ls (kG q4 a0 hon a1) (Ls (kG q5 a0 hon a1) (kG q6 a0 hon a1)))))));have am:=(hon.block P.g (Np.1 (a3.grow a0).box).1 a3.gn.1).trans (a3.grow a0).box;obtain⟨_,_,_,_,_,_,_,_,_,_,_,_,_,zf,zl⟩:=mC am;clear am;refine hK.out _ _ a2 ?_;clear hK
     try simp only[lay]
     refine .tq 8 [9,10] a2 ?_;refine .tq 9 [10] a2 ?_;refine fX.last (by kernel_rfl) rfl (by kernel_rfl) (fun Le hK=>?_);go_simp;refine hK.out _ _ ?_;clear hK
     try simp only[lay]
     have af:=(a3.grow a0).items (its':=m.items++[x]) (A':=A7) (c':=c7) (Sy:=S1) hy hon (by simpa using aq) (fun b hb=>by rcases hS7 b hb with h | h | h;exact .inl h;exact .inr (.inl h);exact .inr (.inr h));simp only[Lj,LJ,Mk,Mb] at af;have hE:zv P.E m code arg line chain=fW.gU ⟨m.items,m.depth,m.gK,U⟩ (m.items++[x]):=by unfold zv;rw[HX.out];rfl
     have az:=(a8.trans (a0.only (P.g::(Si++Ss)))).size;have aw:=(a8.trans (a0.only _)).trans af.2
     have ar:∀ b∈P.g::(S7++Ss),b∈P.g::(Si++Ss)∨W.heap.size<=b:=fun b hb=>by
      exact se
     have af:=af;go_wp2_with(fail);exact MF (v:=.tuple #[]) (by simp[Ly,results221,go_sem]) rfl ⟨rfl,_,⟨A7,c7,S7,As,cs,Ss,af.1,rfl⟩,aw,ar⟩
section
variable {P:Program} {ops:Array Oper} {Ld:Exit->Act->N->Prop} {md:Nz} {S:N->Prop} {m:Nat}
def og (K9:Q Nat)(listed:Array Bool):Nat:=(K9.filter fun i=>!listed.getD i M).length
theorem Eo:∀(K9:Q Nat){listed:Array Bool}{i:Nat},K9.Nodup->i∈K9->listed.getD i M=U->og K9 (listed.setIfInBounds i M)+1=og K9 listed
 | [],_,_,_,h,_=>by cases h
 | j::K9,listed,i,hN,h,hi=>by
  obtain⟨hj,hN⟩:=NT.1 hN;unfold og;by_cases hji:j=i
  ·subst hji
   have h1:K9.filter (fun k=>!(listed.setIfInBounds j M).getD k M)=K9.filter (fun k=>!listed.getD k M):=by
    refine List.filter_congr (fun k hk=>?_);rw[OS M (show j≠k from fun h=>hj (h ▸ hk))]
   have h2:(listed.setIfInBounds j M).getD j M=M:=by
    rcases Ny j listed.size with h' | h'
    ·simp[h']
    ·simp[NF h'] at hi
   rw[Nw,Nw,h2,hi,h1];rfl
  ·have hm:i∈K9:=by
    rcases LU.1 h with h | h
    ·exact absurd h.symm hji
    ·exact h
   have h1:=Eo K9 hN hm hi;unfold og at h1;rw[Nw,Nw,OS M (Ne.symm hji)];split
   ·simp only[LJ];omega
   ·exact h1
theorem fX.inv (K9:Q Nat)(K4:Array Bool->Act->N->Prop)(c:Nat)(hM:K9.Nodup)
  (hs:∀ listed a w,K4 listed a w->0<og K9 listed->MK md ops listed≠[]/\∀ i∈MK md ops listed,i∈K9/\wpOp P ops Ld i (fun a' w'=>(i≠m->S w')/\K4 (listed.setIfInBounds i M) a' w') a w)
  (he:∀ listed a w,K4 listed a w->og K9 listed=0->fX P md ops Ld S m c listed a w) :
  ∀(k:Nat) (listed:Array Bool) (a:Act) (w:N),og K9 listed=k->K4 listed a w->fX P md ops Ld S m (k+c) listed a w:=by
 intro k;induction k with
 | zero=>
  intro listed a w hk h;rw[Mb];exact he listed a w h hk
 | succ k ih=>
  intro listed a w hk h;obtain⟨h1,h2⟩:=hs listed a w h (by omega);rw[show k+1+c=(k+c)+1 from by omega];refine⟨fun h0=>absurd h0 h1,fun i hi=>?_⟩;obtain⟨h3,h4⟩:=h2 i hi;refine wpOp_mono (fun a' w' h5=>⟨h5.1,ih _ _ _ ?_ h5.2⟩) h4;have h6:=Eo K9 hM h3 (mem_ready.1 hi).1;omega
theorem fX.inv2 (K9:Q Nat)(K4:Array Bool->Act->N->Prop)(R:Array Bool->Q Nat)(c:Nat)(hM:K9.Nodup)
  (hr:∀ listed a w,K4 listed a w->0<og K9 listed->MK md ops listed=R listed/\R listed≠[]/\∀ i∈R listed,i∈K9)
  (hs:∀ listed a w i,K4 listed a w->i∈R listed->wpOp P ops Ld i (fun a' w'=>(i≠m->S w')/\K4 (listed.setIfInBounds i M) a' w') a w)
  (he:∀ listed a w,K4 listed a w->og K9 listed=0->fX P md ops Ld S m c listed a w) :
  ∀(k:Nat) (listed:Array Bool) (a:Act) (w:N),og K9 listed=k->K4 listed a w->fX P md ops Ld S m (k+c) listed a w:=
 fX.inv K9 K4 c hM (fun listed a w hI hu=>by
  obtain⟨h1,h2,h3⟩:=hr listed a w hI hu;rw[h1]
  exact⟨h2,fun i hi=>⟨h3 i hi,hs listed a w i hI hi⟩⟩) he
theorem fX.um (K9:Q Nat)(K4:Act->Array Bool->Act->N->Prop)(R:Array Bool->Q Nat)(c k:Nat)(hM:K9.Nodup){listed:Array Bool}{a0:Act}{w0:N}
  (hr:∀ listed a w,K4 a0 listed a w->0<og K9 listed->MK md ops listed=R listed/\R listed≠[]/\∀ i∈R listed,i∈K9)
  (hs:∀ listed a w i,K4 a0 listed a w->i∈R listed->wpOp P ops Ld i (fun a' w'=>(i≠m->S w')/\K4 a0 (listed.setIfInBounds i M) a' w') a w)
  (he:∀ listed a w,K4 a0 listed a w->og K9 listed=0->fX P md ops Ld S m c listed a w) (hk:og K9 listed=k) (h0:K4 a0 listed a0 w0):fX P md ops Ld S m (k+c) listed a0 w0:=
 fX.inv2 K9 (K4 a0) R c hM hr hs he k listed a0 w0 hk h0
theorem qQ {α:Type} {T:Ty α} {e:TypeId} {v:LA} {xs:Q α} {S:Q Nat} (h:Has (T.sl e) W [v] xs S):∃ A c,v=J A xs.length c:=by
 obtain⟨A,c,_,_,hv,_⟩:=h.1;injection hv with hv _
 exact⟨A,c,hv⟩
theorem ox {a:Act} {R:Act->N->Prop} (ho:ops[i]?=H o)
  (h:∀ Le:Act->N->Prop,Hid (∀ a w,R a w->Le a w)->if MI o (NA ops a.tmps)=M then Oper.wp P o a w Le Ld else Le (a.put o.dst undef) w):wpOp P ops Ld i R a w:=
 wpOp_step ho (fun Le hK=>h Le (fE fun a w hR=>hK a w hR))
end
def jR:Q fS->Int->Q Int
 | [],a=>[a]
 | x::r,a=>a::jR r (a+zA x.Op.Code)
def lf (gD:Q Int)(k:Nat)(x:fS):fQ:=
 ⟨gD.getD k 0,if x.Op.Code=10∨x.Op.Code=11 then { x with Op:=⟨x.Op.Code,gD.getD x.Op.Arg.toNat 0-gD.getD (k+1) 0⟩ } else x⟩
def nJ (gD:Q Int):Q fS->Nat->Q fQ
 | [],_=>[]
 | x::r,k=>lf gD k x::nJ gD r (k+1)
def kF:Q fS->Int->Int
 | [],a=>a
 | x::r,a=>kF r (a+zA x.Op.Code)
def jD (items:Q fS)(a:Int):Q fQ:=nJ (jR items a) items 0
def me (b:gC)(f image:Int):Bool:=if b.Split=M then decide (f % 2=image) else decide (image=0)
def l0 (p:Q fG)(b:gC)(image:Int):Nat->Nat->Int->Q fQ
 | 0,_,_=>[]
 | n+1,f,a=>if me b f image=M then jD (jY p b f) a++l0 p b image n (f+1) (kF (jY p b f) a) else l0 p b image n (f+1) a
def zK (p:Q fG)(b:gC)(image:Int):Q fQ:=
 if zs p=M/\jG b=M/\gW image 0 1=M then l0 p b image (zk p).length 0 0 else []
def jX (x:mV):Bool:=gW x.Code 0 17 && (if (jw x.Code).2=M then gW x.Arg (-(2 ^ (8*(jw x.Code).1-1))) (2 ^ (8*(jw x.Code).1-1)-1) else gW x.Arg 0 (2 ^ (8*(jw x.Code).1)-1))
def nR (n:Int):UInt8:=NJ (n % 256).toNat
def nK (a:Int):Nat->Nat->Q UInt8
 | 0,_=>[]
 | n+1,k=>nR (a / 2 ^ (8*k))::nK a n (k+1)
def jE (x:mV):D:=if jX x=M then ⟨(nR x.Code::nK x.Arg (jw x.Code).1 0).toArray⟩ else emp
def rj (p:Q fG)(k:Int):D:=((p[k.toNat]?).map fG.Name).getD emp
def qt (syms:Q gk)(n:Int):Q gk:=match syms.getLast? with
 | none=>syms
 | some x=>syms.dropLast++[{ x with il:=n-x.Start }]
def ov (p:Q fG)(i:jL)(x:fQ):jL:=
 let syms:=if x.Item.Op.Code=13∨x.Item.Op.Code=15/\zG p x.Item.fN=0 then i.fM++[⟨rj p x.Item.fN,x.Offset,0⟩] else i.fM
 let code:=i.Code++jE x.Item.Op
 ⟨code,qt syms code.size⟩
def lD (p:Q fG)(b:gC)(image:Int):jL:=(zK p b image).foldl (ov p) ⟨emp,[]⟩
def mO (out:Q gZ)(x:fQ):Q gZ:=
 let r:gZ:=⟨x.Offset,x.Offset+zA x.Item.Op.Code,x.Item.fI,x.Item.fK⟩
 match out.getLast? with
 | none=>out++[r]
 | some q=>if q.End=r.Start/\q.Frame=r.Frame/\q.fK=r.fK then out.dropLast++[{ q with End:=r.End }] else out++[r]
def mn (l:Q fQ):Bool:=l.all fun x=>gW x.Offset 0 1000000
def kU (l:Q fQ):Q gZ:=if mn l=M then l.foldl mO [] else []
def nQ:K fS->Q fQ->Q jc
 | _,[]=>[]
 | q,x::r=>(match q with
  | some y=>if x.Item.Start=U/\y.Start=U/\y.fN=x.Item.fN then [] else [⟨x.Offset,x.Item.fN,x.Item.Start⟩]
  | none=>[⟨x.Offset,x.Item.fN,x.Item.Start⟩])++nQ (H x.Item) r
def nE (l:Q fQ):Q jc:=nQ V l
def nr:Q fG->Nat->D->D
 | [],_,s=>s
 | _,0,s=>s
 | x::r,n+1,s=>nr r n (if x.Kind=0 then x.Name else s)
def lp (p:Q fG)(k:Int):D:=if 0<=k/\k<p.length then nr p (k.toNat+1) emp else emp
def zN (p:Q fG)(x:fS)(level:Nat):D:=if level+1<x.fH.length then lp p (x.fH.getD (level+1) 0) else lp p x.fN
def lP (p:Q fG)(level:Nat)(chain:Q Int)(name:D)(y:fQ):Bool:=
 decide (level<y.Item.fH.length) && (decide (y.Item.fH.take (level+1)=chain.take (level+1)) && decide (zN p y.Item level=name))
def nM (p:Q fG)(level:Nat):Nat->Q fQ->Q gJ
 | 0,_=>[]
 | _+1,[]=>[]
 | n+1,x::r=>if level<x.Item.fH.length then
   let run:=r.takeWhile (lP p level x.Item.fH (zN p x.Item level))
   let last:=(x::run).getLast (by simp)
   ⟨x.Offset,last.Offset+zA last.Item.Op.Code,level,x.Item.fH.getD level 0,zN p x.Item level⟩::nM p level n (r.drop run.length)
  else nM p level n r
def tA (l:Q fQ):Nat:=l.foldl (fun n x=>max n x.Item.fH.length) 0
def zS (p:Q fG)(l:Q fQ):Q gJ:=
 if zs p=M/\mn l=M then (List.range (tA l)).flatMap fun level=>nM p level l.length l else []
def mb (p:Q fG)(b:gC)(image:Int):iT:=
 if zs p=M/\jG b=M/\gW image 0 1=M then
  ⟨lB (lD p b image).Code (lD p b image).Code.size,(lD p b image).fM,kU (zK p b image),nE (zK p b image),zS p (zK p b image)⟩
 else ⟨0,[],[],[],[]⟩
section
variable {P:Program} {ops:Array Oper} {Ld:Exit->Act->N->Prop} {md:Nz} {S:N->Prop} {m:Nat}
theorem fX.st (i:Nat)(cs:Q Nat){oi:Oper}{v:LA}{f:Nat}{listed:Array Bool}{a:Act}{w:N}(hS:S w)(h:fX P md ops Ld S m f (listed.setIfInBounds i M) (a.put oi.dst v) w)
  (hr:(MK md ops listed).contains i=M:=by kernel_rfl) (hi:ops[i]?=H oi:=by exact rfl) (hsel:ND ops=M:=by kernel_rfl) (hf:Oq md ops listed i=M:=by kernel_rfl) (hlk:oW md ops m i cs=M:=by kernel_rfl) (hne:cs.isEmpty=U:=by exact rfl) (hun:qA listed cs=M:=by kernel_rfl)
  (hQ:∀ c a w,Ld (.panic c) (a.put oi.dst v) w->Ld (.panic c) a w:=by exact fun _ _ _ h=>h) (hw:MI oi (NA ops a.tmps)=M:=by first | rfl | kernel_rfl) (hy:∀ w,S w->(execOp a.eval oi).run P w=.ok (.value v) w:=by intro w hSw;(try dsimp only at hSw);go_simp;(try with_reducible rfl)):fX P md ops Ld S m (f+1) listed a w:=
 fX.take hi hsel hf hr hlk hne hun hQ hS hw hy h
theorem fX.s1 (i:Nat){o:Oper}{f:Nat}{listed:Array Bool}{a:Act}{w:N}(h:∀ Le:Act->N->Prop,Hid (∀ a w,S w->fX P md ops Ld S m f (listed.setIfInBounds i M) a w->Le a w)->if MI o (NA ops a.tmps)=M then Oper.wp P o a w Le Ld else Le (a.put o.dst undef) w)
  (hr:MK md ops listed = [i]:=by kernel_rfl) (ho:ops[i]?=H o:=by exact rfl):fX P md ops Ld S m (f+1) listed a w:=.jj hr ho h
theorem fX.sl {listed:Array Bool} {a:Act} (h:∀ Le:Act->N->Prop,Hid (∀ a w,Ld .normal a w->Le a w)->if MI o (NA ops a.tmps)=M then Oper.wp P o a w Le Ld else Le (a.put o.dst undef) w)
  (hr:MK md ops listed = [m]:=by kernel_rfl) (ho:ops[m]?=H o:=by exact rfl) (hd:MK md ops (listed.setIfInBounds m M) = []:=by kernel_rfl):fX P md ops Ld S m (f+1) listed a w:=.last hr ho hd h
end
end Go.Proofs.YtiihkapmggfjkaaGreat
