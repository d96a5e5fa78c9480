/-
  PART.
-/
import Derived.Test.YtiihkapmggfjkaaGreatM9LawMakeDebug
import Derived.Test.YtiihkapmggfjkaaGreatM11LawMakeDebug
import Derived.Maps.OwnSet
set_option linter.unusedVariables false
set_option linter.unusedSimpArgs false
set_option maxRecDepth 100000
set_option maxHeartbeats 8000000
namespace Go.Proofs.YtiihkapmggfjkaaGreat
open Value renaming slice->J,int->F,bool->X,string->G
open IntKind renaming i64->I,wrap->Ll
open Option renaming none->V,some->H
open Bool renaming false->U,true->M
open Go renaming World->N,results->Ly,Value->LA,Calls->LR,Addr->Mh
open World renaming cell?->Lg
open _root_.Int renaming toNat_natCast->Lw
open List renaming getElem?_cons_zero->Mf,replicate->Mz,range'->Nn,cons_append->OW
open _root_.ByteArray renaming size->M8
open RowKit renaming wrap64->NQ
open BitVec renaming ofInt->OE
open Tryz
open Go.RowKit
variable {A0 A1:K Mh}{W W' w:N}{a:Int}{b c0 c1 e i k n:Nat}{l p q:Q fG}{locals:Q D}{s:D}{x y:fG}
def jP (n:Int):Int:=(n+2147483648) % 4294967296-2147483648
def jh (code a b:Int):Int:=
 if code=5 then jP (jP a+jP b)
 else if code=6 then jP (jP a-jP b)
 else if code=7 then jP (jP a*jP b)
 else if code=8 then (if jP a<jP b then 1 else 0)
 else if code=9 then (if jP a=jP b then 1 else 0)
 else 0
def oV (v:Int):gu:=⟨0,v,emp⟩
def mQ (t:gu)(l:Q gu):Q gu:=
 match l with
 | [a,b]=>if gW t.Kind 2 6=M/\a.Kind=0/\b.Kind=0/\gW (jh (t.Kind+3) a.gN b.gN) 0 999=M then [oV (jh (t.Kind+3) a.gN b.gN)] else t::l
 | _=>t::l
mutual
def Ex.fold:Ex->Q gu
 | .node t ks=>mQ t ks.fold
def gj.fold:gj->Q gu
 | .nil=>[]
 | .cons e r=>e.fold++r.fold
end
theorem vJ (t:gu)(l:Q gu):mQ t l=t::l∨∃ a b,l = [a,b]/\gW t.Kind 2 6=M/\a.Kind=0/\b.Kind=0/\gW (jh (t.Kind+3) a.gN b.gN) 0 999=M/\mQ t l = [oV (jh (t.Kind+3) a.gN b.gN)]:=by
 unfold mQ;split
 ·rename_i a b
  by_cases h:gW t.Kind 2 6=M/\a.Kind=0/\b.Kind=0/\gW (jh (t.Kind+3) a.gN b.gN) 0 999=M
  ·rw[Lu h]
   exact .inr ⟨a,b,rfl,h.1,h.2.1,h.2.2.1,h.2.2.2,rfl⟩
  ·rw[Lt h];exact .inl rfl
 ·exact .inl rfl
theorem Dt {v:Int} (h:gW v 0 999=M):kq (oV v)=M:=by
 unfold kq oV;simp[h]
mutual
theorem Ex.iK:∀ e:Ex,e.wf->∃ e':Ex,e'.wf/\e'.flat=e.fold/\e'.size<=e.size
 | .node t ks,h=>by
  obtain⟨h1,h2,h3⟩:=h;obtain⟨a0,g1,g2,g3,g4⟩:=gj.iK ks h3;simp only[Ex.fold,Ex.size];rcases vJ t ks.fold with hf | ⟨a,b,_,_,_,_,hv,hf⟩
  ·rw[hf]
   exact⟨.node t a0,⟨h1,by rw[g2];exact h2,g1⟩,by simp only[Ex.flat,g3],by simp only[Ex.size];omega⟩
  ·rw[hf]
   refine⟨.node (oV (jh (t.Kind+3) a.gN b.gN)) .nil,⟨Dt hv,?_,trivial⟩,rfl,by simp only[Ex.size,gj.size];omega⟩;unfold iL;rw[Lu (Dt hv)];rfl
theorem gj.iK:∀ ks:gj,ks.wf->∃ ks':gj,ks'.wf/\ks'.len=ks.len/\ks'.flat=ks.fold/\ks'.size<=ks.size
 | .nil,_=>⟨.nil,trivial,rfl,rfl,Lz _⟩
 | .cons e r,h=>by
  obtain⟨e',h1,h2,h3⟩:=Ex.iK e h.1;obtain⟨r',g1,g2,g3,g4⟩:=gj.iK r h.2;exact⟨.cons e' r',⟨h1,g1⟩,by simp only[gj.len,g2],by simp only[gj.flat,gj.fold,h2,g3],by simp only[gj.size];omega⟩
end
mutual
theorem Ex.jO:∀(e:Ex)(t:gu),t∈e.fold->t∈e.flat∨t.Kind=0
 | .node t ks,u,h=>by
  simp only[Ex.fold] at h;simp only[Ex.flat,LU];rcases vJ t ks.fold with hf | ⟨a,b,_,_,_,_,hv,hf⟩
  ·rw[hf] at h
   rcases LU.1 h with h | h
   ·exact .inl (.inl h)
   ·rcases gj.jO ks u h with h | h
    ·exact .inl (.inr h)
    ·exact .inr h
  ·rw[hf] at h
   rw[Lr.1 h];exact .inr rfl
theorem gj.jO:∀(ks:gj)(t:gu),t∈ks.fold->t∈ks.flat∨t.Kind=0
 | .nil,u,h=>by simp[gj.fold] at h
 | .cons e r,u,h=>by
  simp only[gj.fold,LG] at h;simp only[gj.flat,LG];rcases h with h | h
  ·rcases Ex.jO e u h with h | h
   ·exact .inl (.inl h)
   ·exact .inr h
  ·rcases gj.jO r u h with h | h
   ·exact .inl (.inr h)
   ·exact .inr h
end
def ru (xs:Q gu):Nat->Nat->Nat->Q gu × Nat
 | 0,_,a=>([],a)
 | _+1,0,a=>([],a)
 | f+1,n+1,a=>match xs[a]? with
  | none=>([],a)
  | some t=>(mQ t (ru xs f (iL t).toNat (a+1)).1++(ru xs f n (ru xs f (iL t).toNat (a+1)).2).1,(ru xs f n (ru xs f (iL t).toNat (a+1)).2).2)
theorem xO {xs:Q gu}:∀(f:Nat)(ks:gj)(a:Nat)(r:Q gu),ks.wf->xs.drop a=ks.flat++r->ks.size<f->ru xs f ks.len a=(ks.fold,a+ks.size)
 | 0,_,_,_,_,_,hf=>by omega
 | f+1,.nil,a,r,_,_,_=>rfl
 | f+1,.cons (.node t ks) q,a,r,h,hx,hf=>by
  simp only[gj.flat,Ex.flat,OW,LZ] at hx;simp only[gj.size,Ex.size] at hf;obtain⟨h1,h2⟩:=pw hx;simp only[gj.len,ru,h1];have e1:=xO f ks (a+1) _ h.1.2.2 h2 (by omega);rw[h.1.2.1,Lw,e1]
  have h3:xs.drop (a+1+ks.size)=q.flat++r:=by
   rw[<-Nh,h2,<-ks.gw,NP]
  rw[xO f q _ r h.2 h3 (by omega)];simp only[gj.fold,Ex.fold,gj.size,Ex.size];congr 1;omega
def mg (xs:Q gu):Q gu:=if l4 xs=M then (ru xs (xs.length+1) 1 0).1 else []
theorem FX {e:Ex} (h:e.wf)(hx:l4 e.flat=M):mg e.flat=e.fold:=by
 unfold mg;rw[Lu hx];have:=xO (xs:=e.flat) (e.flat.length+1) (.cons e .nil) 0 [] ⟨h,trivial⟩ (by simp[gj.flat]) (by simp only[gj.size,e.gw];omega);simp only[gj.len,Mb] at this;rw[this];simp[gj.fold]
theorem vD {xs:Q gu} (h:l4 xs=M):∃ e:Ex,e.wf/\xs=e.flat/\xs.length<=20/\mg xs=e.fold:=by
 obtain⟨e,h1,h2,h3⟩:=Cj h;subst h2;exact⟨e,h1,rfl,h3,FX h1 h⟩
mutual
theorem Ex.uniq:∀(e e':Ex),e.wf->e'.wf->∀(r r':Q gu),e.flat++r=e'.flat++r'->e=e'/\r=r'
 | .node t ks,.node t' ks',h,h',r,r',hx=>by
  simp only[Ex.flat,OW,NV] at hx;obtain⟨rfl,hx⟩:=hx;obtain⟨h1,h2⟩:=gj.uniq ks ks' h.2.2 h'.2.2 (by have:=h.2.1;have:=h'.2.1;omega) r r' hx;exact⟨by rw[h1],h2⟩
theorem gj.uniq:∀(ks ks':gj),ks.wf->ks'.wf->ks.len=ks'.len->∀(r r':Q gu),ks.flat++r=ks'.flat++r'->ks=ks'/\r=r'
 | .nil,.nil,_,_,_,r,r',hx=>⟨rfl,by simpa[gj.flat] using hx⟩
 | .nil,.cons _ _,_,_,hl,_,_,_=>by simp[gj.len] at hl
 | .cons _ _,.nil,_,_,hl,_,_,_=>by simp[gj.len] at hl
 | .cons e q,.cons e' q',h,h',hl,r,r',hx=>by
  simp only[gj.flat,LZ] at hx;obtain⟨h1,h2⟩:=Ex.uniq e e' h.1 h'.1 _ _ hx;obtain⟨h3,h4⟩:=gj.uniq q q' h.2 h'.2 (by simpa[gj.len] using hl) r r' h2;exact⟨by rw[h1,h3],h4⟩
end
def jy (l:Q D)(s:D):Bool:=l.any fun y=>decide (y=s)
def mM (k:Int):Bool:=decide (k=1) || (decide (k=2) || (decide (k=3) || (decide (k=5) || decide (k=6))))
def mP:Q D->Q D->Bool
 | _,[]=>M
 | pre,x::r=>mZ x && (!(jy pre x) && mP (pre++[x]) r)
def oT (l:Q D):Bool:=decide (l.length<=4) && mP [] l
def tG (x:fG):Bool:=if x.Kind=0∨x.Kind=1 then mZ x.Name else decide (x.Name=emp)
def nB (x:fG):Bool:=if x.Kind=0 then oT x.fP else decide (x.fP.length=0)
def px (x:fG):Bool:=if mM x.Kind=M then l4 x.Expr else decide (x.Expr.length=0)
def ku (x:fG):Bool:=gW x.Kind 0 7 && (tG x && (nB x && px x))
def iS:Q fG->Nat->Q Int
 | [],_=>[]
 | x::r,i=>if x.Kind=0 then (i:Int)::iS r (i+1) else iS r (i+1)
def zk (p:Q fG):Q Int:=iS p 0
def mi:Q fG->D->Nat->Int
 | [],_,_=>-1
 | x::r,s,i=>if x.Kind=0/\x.Name=s then (i:Int) else mi r s (i+1)
def zQ (p:Q fG)(s:D):Int:=mi p s 0
def oz (out:Q D)(x:fG):Q D:=if x.Kind=1/\jy out x.Name=U then out++[x.Name] else out
def ma:Q fG->Nat->Q D->Q D
 | _,0,out=>out
 | [],_+1,out=>out
 | x::r,n+1,out=>ma r n (oz out x)
def zq (p:Q fG)(k:Int):Q D:=if zJ p k<0 then [] else match p[k.toNat]? with
 | none=>[]
 | some x=>if x.Kind=0 then ma (p.drop k.toNat) ((zJ p k).toNat-k.toNat) x.fP else []
def zD (p:Q fG)(locals:Q D)(t:gu):Bool:=
 if t.Kind=1 then jy locals t.Name else if t.Kind=7 then (if zQ p t.Name<0 then U else match p[(zQ p t.Name).toNat]? with
  | none=>U
  | some x=>decide ((x.fP.length:Int)=t.gN)) else M
def zB (p:Q fG)(locals:Q D)(l:Q gu):Bool:=l.all (zD p locals)
def my (p:Q fG)(k i:Nat):Bool:=(Nn k (i-k)).any fun j=>decide (zx p j=i)
def lZ (p:Q fG)(locals:Q D)(k i:Nat)(x:fG):Bool:=
 (!decide (x.Kind=0)) && ((if x.Kind=4 then my p k i else M) && (decide (zu p (i+1)-zu p (k+1)<=4) && zB p locals x.Expr))
def oU (p:Q fG)(locals:Q D)(k:Nat):Q fG->Nat->Nat->Bool
 | _,0,_=>M
 | [],_+1,_=>M
 | x::r,n+1,i=>lZ p locals k i x && oU p locals k r n (i+1)
def lu (p:Q fG)(k e:Nat):Bool:=decide ((zq p k).length<=8) && oU p (zq p k) k (p.drop (k+1)) (e-(k+1)) (k+1)
def lQ (p:Q fG):Nat->Nat->Bool
 | 0,_=>M
 | n+1,k=>match p[k]? with
  | none=>M
  | some x=>decide (x.Kind=0) && (decide (0<=zJ p k) && (lu p k (zJ p k).toNat && lQ p n ((zJ p k).toNat+1)))
def rq:D:=⟨#[109,97,105,110]⟩
def nD (p:Q fG):Bool:=match p[0]? with
 | none=>U
 | some x=>decide (x.Kind=0) && (decide (x.Name=rq) && decide (x.fP.length=0))
def oR (p:Q fG)(k:Nat)(x:fG):Bool:=ku x && (if x.Kind=0 then decide (zQ p x.Name=k) else M)
def mK (p:Q fG):Q fG->Nat->Bool
 | [],_=>M
 | x::r,k=>oR p k x && mK p r (k+1)
def zs (p:Q fG):Bool:=decide (p.length<=60) && (nD p && (decide ((zk p).length<=6) && (mK p p 0 && lQ p p.length 0)))
theorem vX (h:l[i]?=H x):mK p (l.drop i) i=(oR p i x && mK p (l.drop (i+1)) (i+1)):=by
 obtain⟨h1,rfl⟩:=Lh.1 h;rw[LI h1];rfl
theorem BR {p:Q fG}:∀(l:Q fG)(k i:Nat)(x:fG),mK p l k=M->l[i]?=H x->oR p (k+i) x=M
 | [],_,_,_,_,h=>by simp at h
 | y::r,k,0,x,h,hx=>by
  simp only[mK,LC] at h;simp only[Mf,Mg] at hx;rw[<-hx];exact h.1
 | y::r,k,i+1,x,h,hx=>by
  simp only[mK,LC] at h;have:=BR r (k+1) i x h.2 (by simpa using hx);rwa [show k+1+i=k+(i+1) from by omega] at this
theorem DB (h:l[i]?=H x):iS (l.drop i) i=if x.Kind=0 then (i:Int)::iS (l.drop (i+1)) (i+1) else iS (l.drop (i+1)) (i+1):=by
 obtain⟨h1,rfl⟩:=Lh.1 h;rw[LI h1];rfl
theorem Ct:∀(l:Q fG)(s:D)(k:Nat),mi l s k = -1∨∃(i:Nat)(x:fG),mi l s k=((k+i:Nat):Int)/\l[i]?=H x/\x.Kind=0/\x.Name=s
 | [],_,_=>.inl rfl
 | y::r,s,k=>by
  unfold mi;by_cases h:y.Kind=0/\y.Name=s
  ·rw[Lu h]
   exact .inr ⟨0,y,rfl,rfl,h.1,h.2⟩
  ·rw[Lt h]
   rcases Ct r s (k+1) with h1 | ⟨i,x,h1,h2,h3,h4⟩
   ·exact .inl h1
   ·exact .inr ⟨i+1,x,by rw[h1];congr 1;omega,by simpa using h2,h3,h4⟩
theorem FV (p:Q fG)(s:D):zQ p s = -1∨∃(i:Nat)(x:fG),zQ p s=(i:Int)/\p[i]?=H x/\x.Kind=0/\x.Name=s:=by
 rcases Ct p s 0 with h | ⟨i,x,h1,h2,h3,h4⟩
 ·exact .inl h
 ·exact .inr ⟨i,x,by unfold zQ;rw[h1];simp,h2,h3,h4⟩
theorem sM {g:Prop} (f:g:=by
  obtain⟨h1,rfl⟩:=Lh.1 h
  rw[LI h1,show e-i=e-(i+1)+1 from by omega]
  rfl):g:=f
theorem pR (h:p[i]?=H x)(hi:i<e):oU p locals k (p.drop i) (e-i) i=(lZ p locals k i x && oU p locals k (p.drop (i+1)) (e-(i+1)) (i+1)):=by
 exact sM
theorem CJ {p:Q fG}{locals:Q D}{k:Nat}:∀(l:Q fG)(n a i:Nat)(x:fG),oU p locals k l n a=M->i<n->l[i]?=H x->lZ p locals k (a+i) x=M
 | [],_,_,_,_,_,_,h=>by simp at h
 | y::r,0,_,_,_,_,hi,_=>by omega
 | y::r,n+1,a,0,x,h,_,hx=>by
  simp only[oU,LC] at h;simp only[Mf,Mg] at hx;rw[<-hx];exact h.1
 | y::r,n+1,a,i+1,x,h,hi,hx=>by
  simp only[oU,LC] at h;have:=CJ r n (a+1) i x h.2 (by omega) (by simpa using hx);rwa [show a+1+i=a+(i+1) from by omega] at this
theorem uB (h:lu p k e=M)(h1:k<i)(h2:i<e)(hx:p[i]?=H x):lZ p (zq p k) k i x=M:=by
 unfold lu at h;simp only[LC] at h;have:=CJ _ _ _ (i-(k+1)) x h.2 (by omega) (by rw[NO,show k+1+(i-(k+1))=i from by omega];exact hx);rwa [show k+1+(i-(k+1))=i from by omega] at this
theorem CD {p:Q fG}:∀(n k:Nat),p.length-k<=n->lQ p n k=M->∀(i:Nat)(x:fG),k<=i->p[i]?=H x->x.Kind=0->∃ e,gg p i e/\lu p i e=M
 | 0,k,hn,_,i,x,hi,hx,_=>by have:=(Lh.1 hx).1;omega
 | n+1,k,hn,h,i,x,hi,hx,h0=>by
  have a0:=(Lh.1 hx).1;have hk:p[k]?=H p[k]:=Lo (by omega);simp only[lQ,hk,LC,LQ] at h;obtain⟨h1,h2,h3,h4⟩:=h;rcases pQ p k with⟨g,_⟩ | ⟨e,g1,g2⟩
  ·rw[g] at h2;omega
  ·rw[g1,Lw] at h3 h4
   rcases On hi with hh | hh
   ·subst hh
    exact⟨e,g2,h3⟩
   ·have a1:=g2.lt
    by_cases hie:i<=e
    ·exfalso
     by_cases hee:i=e
     ·subst hee
      obtain⟨y,hy,h7⟩:=g2.last;rw[hx] at hy;injection hy with hy
      rw[hy,h7] at h0;cases h0
     ·have:=uB h3 hh (by omega) hx
      unfold lZ at this;simp[h0] at this
    ·exact CD n (e+1) (by omega) h4 i x (by omega) hx h0
structure lW (p:Q fG):Prop where
 len:p.length<=60
 head:∃ x:fG,p[0]?=H x/\x.Kind=0/\x.Name=rq/\x.fP = []
 line:∀(i:Nat) (x:fG),p[i]?=H x->ku x=M
 own:∀(i:Nat) (x:fG),p[i]?=H x->x.Kind=0->zQ p x.Name=i
 ki:(zk p).length<=6
 body:∀(i:Nat) (x:fG),p[i]?=H x->x.Kind=0->∃ e,gg p i e/\lu p i e=M
theorem nt (h:zs p=M):lW p:=by
 unfold zs at h;simp only[LC,LQ] at h;obtain⟨h1,h2,h3,h4,h5⟩:=h
 have hl:∀(i:Nat) (x:fG),p[i]?=H x->oR p i x=M:=fun i x hx=>by
  have:=BR p 0 i x h4 hx;rwa [Mb] at this
 refine⟨h1,?_,fun i x hx=>?_,fun i x hx h0=>?_,h3,fun i x hx h0=>CD _ 0 (by omega) h5 i x (Lv _) hx h0⟩
 ·unfold nD at h2
  cases hp:p[0]? with
  | none=>rw[hp] at h2;cases h2
  | some x=>
   rw[hp] at h2;simp only[LC,LQ,M3] at h2;exact⟨x,rfl,h2⟩
 ·have:=hl i x hx
  unfold oR at this;simp only[LC] at this;exact this.1
 ·have:=hl i x hx
  unfold oR at this;simp only[LC,h0,Nx,LQ] at this;exact this.2
def zI (x:fG):fG:={ x with Expr:=if 0<x.Expr.length then mg x.Expr else x.Expr }
def mh (p:Q fG):Q fG:=if zs p=M then p.map zI else []
def ic (p q:Q fG):Prop:=p.map fG.Kind=q.map fG.Kind
theorem ic.len (h:ic p q):p.length=q.length:=by
 have:=MY List.length h;simpa using this
theorem ic.at (h:ic p q)(i:Nat):(p[i]?).map fG.Kind=(q[i]?).map fG.Kind:=by
 have:=MY (fun l=>l[i]?) h;simpa using this
theorem ic.get (h:ic p q){i:Nat}{x y:fG}(hx:p[i]?=H x)(hy:q[i]?=H y):x.Kind=y.Kind:=by
 have:=h.at i;rw[hx,hy] at this;simpa using this
theorem ic.ex (h:ic p q){i:Nat}{x:fG}(hx:p[i]?=H x):∃ y,q[i]?=H y/\x.Kind=y.Kind:=by
 have hl:=(Lh.1 hx).1;have hy:q[i]?=H (q[i]'(by rw[<-h.len];exact hl)):=Lo _;exact⟨_,hy,h.get hx hy⟩
theorem ic.symm {p q:Q fG}(h:ic p q):ic q p:=Eq.symm h
theorem GZ (h:x.Kind=y.Kind):jf x=jf y:=by unfold jf;rw[h]
theorem ic.depth {p q:Q fG}(h:ic p q):∀ i,zu p i=zu q i
 | 0=>rfl
 | i+1=>by
  cases hx:p[i]? with
  | none=>
   have hl:p.length<=i:=Nd.1 hx;have h1:=ic.depth h i;unfold zu at h1 |-;rw[MA (by omega),MA (by rw[<-h.len];omega)];rw[MA hl,MA (by rw[<-h.len];omega)] at h1;exact h1
  | some x=>
   obtain⟨y,hy,hk⟩:=h.ex hx;rw[mc hx,mc hy,ic.depth h i,GZ hk]
theorem ic.ends (h:ic p q){k e:Nat}(he:gg p k e):gg q k e:=by
 obtain⟨x,hx,ho⟩:=he.op;obtain⟨y,hy,hk⟩:=h.ex hx;exact⟨⟨y,hy,by rw[<-hk];exact ho⟩,he.lt,by rw[<-h.len];exact he.len,by rw[<-h.depth,<-h.depth];exact he.eq,fun i a b=>by rw[<-h.depth,<-h.depth];exact he.up i a b⟩
theorem ic.iy {p q:Q fG}(h:ic p q)(k:Int):zJ p k=zJ q k:=by
 rcases po p k with h1 | ⟨a,e,rfl,h1,h2⟩
 ·rcases po q k with g1 | ⟨a,e,rfl,g1,g2⟩
  ·rw[h1,g1]
  ·rw[(h.symm.ends g2).iy] at h1
   omega
 ·rw[h1,(h.ends h2).iy]
theorem ic.qB {p q:Q fG}(h:ic p q):∀(n i:Nat)(e:Int),mx p n i e=mx q n i e
 | 0,_,_=>rfl
 | n+1,i,e=>by
  unfold mx;by_cases hi:(i:Int)<e
  ·rw[Lu hi,Lu hi]
   cases hx:p[i]? with
   | none=>
    have:q[i]?=V:=Nd.2 (by rw[<-h.len];exact Nd.1 hx);rw[this]
   | some x=>
    obtain⟨y,hy,hk⟩:=h.ex hx;rw[hy];simp only[hk,h.iy,ic.qB h n]
  ·rw[Lt hi,Lt hi]
theorem ic.np (h:ic p q)(k:Int):zx p k=zx q k:=by
 unfold zx;rw[h.iy];split
 ·rfl
 ·cases hx:p[k.toNat]? with
  | none=>
   have:q[k.toNat]?=V:=Nd.2 (by rw[<-h.len];exact Nd.1 hx);rw[this]
  | some x=>
   obtain⟨y,hy,hk⟩:=h.ex hx;rw[hy];simp only[hk,h.qB,h.len]
theorem vU (p:Q fG):ic p (p.map zI):=by
 unfold ic;rw[List.map_map];rfl
theorem Eh (h:p[i]?=H x):(p.map zI)[i]?=H (zI x):=by simp[h]
theorem tB (h:(p.map zI)[i]?=H y):∃ x,p[i]?=H x/\y=zI x:=by
 simp only[NX,Option.map_eq_some_iff] at h;obtain⟨x,h1,h2⟩:=h;exact⟨x,h1,h2.symm⟩
theorem Cv:∀(l:Q fG)(i:Nat),iS (l.map zI) i=iS l i
 | [],_=>rfl
 | x::r,i=>by
  simp only[NI,iS,Cv r];rfl
theorem tS (p:Q fG):zk (p.map zI)=zk p:=Cv p 0
theorem Ck:∀(l:Q fG)(s:D)(i:Nat),mi (l.map zI) s i=mi l s i
 | [],_,_=>rfl
 | x::r,s,i=>by
  simp only[NI,mi,Ck r];rfl
theorem FB (p:Q fG)(s:D):zQ (p.map zI) s=zQ p s:=Ck p s 0
theorem Bg:∀(l:Q fG)(n:Nat)(out:Q D),ma (l.map zI) n out=ma l n out
 | _,0,_=>by cases ‹Q fG› <;> rfl
 | [],_+1,_=>rfl
 | x::r,n+1,out=>by
  simp only[NI,ma,Bg r];rfl
theorem Fg (p:Q fG)(k:Int):zq (p.map zI) k=zq p k:=by
 unfold zq;rw[(vU p).symm.iy];split
 ·rfl
 ·cases hx:p[k.toNat]? with
  | none=>simp[hx]
  | some x=>
   rw[Eh hx];simp only[<-List.map_drop,Bg];rfl
structure j9 (p:Q fG):Prop where
 len:p.length<=60
 kind:∀(i:Nat) (x:fG),p[i]?=H x->gW x.Kind 0 7=M
 expr:∀(i:Nat) (x:fG),p[i]?=H x->mM x.Kind=M->∃ e:Ex,e.wf/\x.Expr=e.flat/\e.size<=20
 args:∀(i:Nat) (x:fG),p[i]?=H x->x.fP.length<=4
 name:∀(i:Nat) (x:fG),p[i]?=H x->x.Kind=0->mZ x.Name=M
 ki:(zk p).length<=6
 body:∀(i:Nat) (x:fG),p[i]?=H x->x.Kind=0->∃ e,gg p i e/\(zq p i).length<=8/\
  ∀(j:Nat) (y:fG),i<j->j<e->p[j]?=H y->y.Kind≠0/\zB p (zq p i) y.Expr=M/\(y.Kind=4->∃ a,i<=a/\a<j/\ir p a j)/\(y.Kind=1->jy (zq p i) y.Name=M)
theorem qg (h:ku x=M):gW x.Kind 0 7=M/\tG x=M/\nB x=M/\px x=M:=by
 unfold ku at h;simpa only[LC,and_assoc] using h
theorem Gv (h:nB x=M):x.fP.length<=4:=by
 unfold nB at h;split at h
 ·unfold oT at h
  simp only[LC,LQ] at h;exact h.1
 ·simp only[LQ] at h
  omega
theorem JB {l r:Q D} (h:jy l s=M):jy (l++r) s=M:=by
 unfold jy at h |-;rw[List.any_append,h];rfl
theorem Gu (out:Q D)(x:fG):x.Kind=1->jy (oz out x) x.Name=M:=by
 intro h;unfold oz;cases hn:jy out x.Name with
 | true=>rw[Lt (by simp)];exact hn
 | false=>
  rw[Lu ⟨h,rfl⟩];unfold jy;simp
theorem FE {out:Q D} (h:jy out s=M):jy (oz out x) s=M:=by
 unfold oz;split
 ·exact JB h
 ·exact h
theorem Bi:∀(l:Q fG)(n:Nat)(out:Q D)(s:D),jy out s=M->jy (ma l n out) s=M
 | _,0,out,s,h=>by cases ‹Q fG› <;> exact h
 | [],_+1,out,s,h=>h
 | x::r,n+1,out,s,h=>Bi r n _ s (FE h)
theorem BS:∀(l:Q fG)(n i:Nat)(out:Q D)(x:fG),l[i]?=H x->i<n->x.Kind=1->jy (ma l n out) x.Name=M
 | [],_,_,_,_,h,_,_=>by simp at h
 | y::r,0,_,_,_,_,h,_=>by omega
 | y::r,n+1,0,out,x,h,_,hk=>by
  simp only[Mf,Mg] at h;subst h;exact Bi r n _ _ (Gu out y hk)
 | y::r,n+1,i+1,out,x,h,hi,hk=>BS r n i _ x (by simpa using h) (by omega) hk
theorem GU {j:Nat} (he:gg p k e)(hx:p[k]?=H x)(h0:x.Kind=0)(h1:k<j)(h2:j<e)(hy:p[j]?=H y)(hk:y.Kind=1):jy (zq p k) y.Name=M:=by
 unfold zq;rw[he.iy,Lt (by omega)];simp only[Lw,hx,h0,Nx];exact BS _ _ (j-k) _ y (by rw[NO,show k+(j-k)=j from by omega];exact hy) (by omega) hk
theorem xx (h:lZ p locals k i x=M):x.Kind≠0/\(x.Kind=4->my p k i=M)/\zu p (i+1)-zu p (k+1)<=4/\zB p locals x.Expr=M:=by
 unfold lZ at h;simp only[LC,NW,Me,LQ] at h;exact⟨h.1,fun h4=>by have:=h.2.1;rwa [Lu h4] at this,h.2.2.1,h.2.2.2⟩
theorem H7 (h:my p k i=M):∃ a,k<=a/\a<i/\ir p a i:=by
 unfold my at h;rw[Nv] at h;obtain⟨a,h1,h2⟩:=h;rw[Oc] at h1;simp only[LQ] at h2;rcases nI p a with h3 | ⟨j,h3,h4⟩
 ·omega
 ·have:j=i:=by omega
  subst this;exact⟨a,h1.1,by omega,h4⟩
theorem lW.c (h:lW p):j9 p:=by
 refine⟨h.len,fun i x hx=>(qg (h.line i x hx)).1,fun i x hx he=>?_,fun i x hx=>Gv (qg (h.line i x hx)).2.2.1,fun i x hx h0=>?_,h.ki,fun i x hx h0=>?_⟩
 ·have h1:=(qg (h.line i x hx)).2.2.2
  unfold px at h1;rw[Lu he] at h1;obtain⟨e,g1,g2,g3⟩:=Cj h1;refine⟨e,g1,g2,?_⟩;rw[g2,e.gw] at g3;exact g3
 ·have h1:=(qg (h.line i x hx)).2.1
  unfold tG at h1;rwa [Lu (.inl h0)] at h1
 ·obtain⟨e,h1,h2⟩:=h.body i x hx h0
  refine⟨e,h1,?_,fun j y a b hy=>?_⟩
  ·unfold lu at h2
   simp only[LC,LQ] at h2;exact h2.1
  ·obtain⟨g1,g2,_,g4⟩:=xx (uB h2 a b hy)
   exact⟨g1,g4,fun h4=>H7 (g2 h4),fun h1'=>GU h1 hx h0 a b hy h1'⟩
theorem ir.uu (h:ic p q){a j:Nat}(he:ir p a j):ir q a j:=by
 obtain⟨x,hx,h3⟩:=he.iff;obtain⟨y,hy,hk⟩:=h.ex hx;obtain⟨z,hz,h4⟩:=he.np;obtain⟨u,hu,a1⟩:=h.ex hz;obtain⟨e,g1,g2⟩:=he.iX;refine⟨⟨y,hy,by rw[<-hk];exact h3⟩,he.lt,⟨u,hu,by rw[<-a1];exact h4⟩,⟨e,h.ends g1,g2⟩,fun i x' b c d o n=>?_⟩;obtain⟨v,hv,a0⟩:=h.symm.ex d;obtain⟨e',w1,w2⟩:=he.out i v b c hv (by rw[<-a0];exact o) (by rw[<-a0];exact n);exact⟨e',h.ends w1,w2⟩
theorem Fh (p:Q fG)(locals:Q D)(t:gu):zD (p.map zI) locals t=zD p locals t:=by
 unfold zD;rw[FB];split
 ·rfl
 ·split
  ·split
   ·rfl
   ·cases hx:p[(zQ p t.Name).toNat]? with
    | none=>simp[hx]
    | some x=>rw[Eh hx];rfl
  ·rfl
theorem F4 {t:gu} (h:t.Kind=0):zD p locals t=M:=by
 unfold zD;rw[Lt (by omega),Lt (by omega)]
theorem lW.fold {p:Q fG}(h:lW p):j9 (p.map zI):=by
 have hc:=h.c;have hk:=vU p
 have a0:∀(i:Nat) (x:fG),p[i]?=H x->mM x.Kind=M->∃ e:Ex,e.wf/\x.Expr=e.flat/\(zI x).Expr=e.fold/\e.size<=20:=fun i x hx he=>by
  have h1:=(qg (h.line i x hx)).2.2.2;unfold px at h1;rw[Lu he] at h1;obtain⟨e,g1,g2,g3,g4⟩:=vD h1;have gs:=g3;rw[g2,e.gw] at gs;refine⟨e,g1,g2,?_,gs⟩;unfold zI;have:0<x.Expr.length:=by rw[g2,e.gw];exact e.size_pos
  simp only[Lu this];exact g4
 refine⟨by simpa using h.len,fun i y hy=>?_,fun i y hy he=>?_,fun i y hy=>?_,fun i y hy h0=>?_,by rw[tS];exact h.ki,fun i y hy h0=>?_⟩
 ·obtain⟨x,hx,rfl⟩:=tB hy
  exact hc.kind i x hx
 ·obtain⟨x,hx,rfl⟩:=tB hy
  obtain⟨e,g1,g2,g3,g4⟩:=a0 i x hx he;obtain⟨e',w1,w2,w3⟩:=e.iK g1;exact⟨e',w1,by rw[g3,w2],by omega⟩
 ·obtain⟨x,hx,rfl⟩:=tB hy
  exact hc.args i x hx
 ·obtain⟨x,hx,rfl⟩:=tB hy
  exact hc.name i x hx h0
 ·obtain⟨x,hx,rfl⟩:=tB hy
  obtain⟨e,h1,h2,h3⟩:=hc.body i x hx h0;rw[Fg];refine⟨e,hk.ends h1,h2,fun j z a b hz=>?_⟩;obtain⟨u,hu,rfl⟩:=tB hz;obtain⟨g1,g2,g3,g4⟩:=h3 j u a b hu;refine⟨g1,?_,fun h4=>?_,g4⟩
  ·unfold zB at g2 |-
   rw[NL] at g2 |-;intro t ht;rw[Fh];by_cases he:mM u.Kind=M
   ·obtain⟨e,w1,w2,w3,_⟩:=a0 j u hu he
    rw[w3] at ht;rcases e.jO t ht with h5 | h5
    ·exact g2 t (by rw[w2];exact h5)
    ·exact F4 h5
   ·have h1:=(qg (h.line j u hu)).2.2.2
    unfold px at h1;rw[Lt he] at h1;simp only[LQ] at h1;unfold zI at ht;simp only[h1,NH,if_false] at ht;exact g2 t ht
  ·obtain⟨a',w1,w2,w3⟩:=g3 h4
   exact⟨a',w1,w2,w3.uu hk⟩
theorem Jx (n:Int):bits .and I n 4294967295=n % 4294967296:=by
 have h0:(OE 64 4294967295).toNat=2 ^ 32-1:=by decide
 have a0:(OE 64 n &&& OE 64 4294967295).toNat=(n % ((2 ^ 64:Nat):Int)).toNat % 2 ^ 32:=by
  rw[BitVec.toNat_and,BitVec.toNat_ofInt,h0,Nat.and_two_pow_sub_one_eq_mod]
 show Ll I ((OE 64 n &&& OE 64 4294967295).toNat:Nat)=n % 4294967296;rw[a0,IntKind.wrap_i64];omega
theorem vo (n:Int) : -2147483648<=jP n/\jP n<=2147483647:=by unfold jP;omega
theorem AH (n:Int):fV (jP n):=by have:=vo n;exact⟨by omega,by omega⟩
theorem zcD {x:Int} (hx:fV x):LR prog 271 #[F I x] w fun r w'=>r=.returned (F I (jP x))/\w'=w:=by
 have h1:NQ (wrap32 (x % 4294967296))=jP x:=by unfold NQ wrap32 jP;omega
 have K6:=fE h1;clear h1;go_enter func271,ntmps271;go_wp2_with(fail);rw[K6.out];go_ret;exact⟨rfl,rfl⟩
theorem sS {g:Prop} (f:g:=by
  have K6:=fE h1
  clear h1
  go_enter func265,ntmps265
  go_wp2_with(fail)
  rw[K6.out]
  go_ret
  exact⟨rfl,rfl⟩):g:=f
theorem zcE {x:Int} (hx:fV x):LR prog 265 #[F I x] w fun r w'=>r=.returned (F I (jP x))/\w'=w:=by
 have h0:=Jx x;by_cases q:(2147483647:Int)<x % 4294967296
 ·have h1:jP x=x % 4294967296-4294967296:=by unfold jP;omega
  have h2:NQ (x % 4294967296-4294967296)=x % 4294967296-4294967296:=by unfold NQ;omega
  exact sS
 ·have h1:jP x=x % 4294967296:=by unfold jP;omega
  exact sS
def Jw (x:fG)(w:N)(r:Ending)(w':N):Prop:=∃ A0 c0 A1 c1,r=.returned (.agg #[F I x.Kind,G x.Name,J A0 x.fP.length c0,J A1 x.Expr.length c1])/\gM zM w w' [F I x.Kind,G x.Name,J A0 x.fP.length c0,J A1 x.Expr.length c1] x/\fF w w'
theorem vQ {S2:Q Nat} {S3:Q Nat} (h0:fV x.Kind)(h1:x.Name.size<=9223372036854775807)(h2:(iH.sl 9).O w [J A0 x.fP.length c0] x.fP S2)(h3:(iz.sl 159).O w [J A1 x.Expr.length c1] x.Expr S3):zM.O w [F I x.Kind,G x.Name,J A0 x.fP.length c0,J A1 x.Expr.length c1] x (S2++S3):=by
 have h:zM.O w [F I x.Kind,G x.Name,J A0 x.fP.length c0,J A1 x.Expr.length c1] x ([]++([]++(S2++S3))):=⟨[F I x.Kind],[G x.Name,J A0 x.fP.length c0,J A1 x.Expr.length c1],[],([]++(S2++S3)),rfl,rfl,⟨rfl,h0.1,h0.2,rfl⟩,⟨[G x.Name],[J A0 x.fP.length c0,J A1 x.Expr.length c1],[],(S2++S3),rfl,rfl,⟨rfl,h1,rfl⟩,⟨[J A0 x.fP.length c0],[J A1 x.Expr.length c1],S2,S3,rfl,rfl,h2,h3⟩⟩⟩
 simpa using h
theorem GK {u2 u3:N} {m2 m3:Nat} (h0:fV x.Kind)(h1:x.Name.size<=9223372036854775807)(h2:kv (iH.sl 9) u2 m2 W [J A0 x.fP.length c0] x.fP)(h3:kv (iz.sl 159) u3 m3 W [J A1 x.Expr.length c1] x.Expr)(hw2:w.heap.size<=u2.heap.size)(hw3:w.heap.size<=u3.heap.size)(hd2_3:m2<=u3.heap.size∨m3<=u2.heap.size):gM zM w W [F I x.Kind,G x.Name,J A0 x.fP.length c0,J A1 x.Expr.length c1] x:=by
 obtain⟨S2,a4,a2,a0⟩:=h2;obtain⟨S3,a5,a3,a1⟩:=h3;exact⟨_,vQ h0 h1 a4 a5,Ms.2 ⟨a2,a3,fun a ha b hb=>(by have h1:=a0 a ha;have h2:=a1 b hb;omega)⟩,fun b hb=>(LG.1 hb).elim (fun hb=>(by have:=a0 b hb;omega)) (fun hb=>(by have:=a1 b hb;omega))⟩
theorem Iw:x=y↔x.Kind=y.Kind/\x.Name=y.Name/\x.fP=y.fP/\x.Expr=y.Expr:=by
 cases x;cases y;simp
def kR (x:fG):Nat:=x.Name.size+jz M8 x.fP+jz lS x.Expr
theorem zrN (h0:fV x.Kind)(h1:x.Name.size<=9223372036854775807)(h2:(iH.sl 9).R w w.heap.size [J A0 x.fP.length c0] x.fP)(h3:(iz.sl 159).R w w.heap.size [J A1 x.Expr.length c1] x.Expr)(hn:kR x<=1099511627776):LR prog 40 #[.agg #[F I x.Kind,G x.Name,J A0 x.fP.length c0,J A1 x.Expr.length c1]] w (Jw x w):=by
 unfold kR at hn;go_enter func40,ntmps40
 go_wp2_with(first
   | (go_at_call 103;(with_reducible refine(GO (xs:=x.fP) (Ty.up _ h2 gG) (by have:=hn;unfold jz at this;omega)).mono ?_);rintro e w2 ⟨B0,d0,rfl,a7,ae,ac,rfl⟩)
   | (go_at_call 104;(with_reducible refine(zrO (xs:=x.Expr) (Ty.up _ h3 gG) (by omega)).mono ?_);rintro e w3 ⟨B1,d1,rfl,a8,af,ad,rfl⟩))
 refine Ln (v:=.agg #[F I x.Kind,G x.Name,J B0 x.fP.length d0,J B1 x.Expr.length d1]) (by simp[Ly,results40,go_sem]) rfl ⟨B0,d0,B1,d1,rfl,?_,gG⟩;obtain⟨S2,a4,a9,a2⟩:=a7;obtain⟨S3,a5,aa,a3⟩:=a8;have a6:=Ty.jB _ a4;have a1:=a2;have ab:=Ty.jB _ a5;have a0:=a3;simp at a1 a6 a0 ab;exact⟨_,vQ h0 h1 (Ty.same _ a4 a2 (by repeat (first | with_reducible exact gX.refl _ _ _ | ((with_reducible refine gX.base ?_ ?_) <;> (simp <;> omega)) | ((with_reducible refine gX.more ?_ ?_ _ _);rotate_left;simp <;> omega) | ((with_reducible refine gX.alloc ?_ ?_ _);rotate_left;simp <;> omega) | with_reducible apply gX.drew | with_reducible apply gX.drewN))) (Ty.same _ a5 a3 (by repeat (first | with_reducible exact gX.refl _ _ _ | ((with_reducible refine gX.base ?_ ?_) <;> (simp <;> omega)) | ((with_reducible refine gX.more ?_ ?_ _ _);rotate_left;simp <;> omega) | ((with_reducible refine gX.alloc ?_ ?_ _);rotate_left;simp <;> omega) | with_reducible apply gX.drew | with_reducible apply gX.drewN))),Ms.2 ⟨a9,aa,fun a ha b hb=>(by have h1:=a6 a ha;have h2:=a0 b hb;omega)⟩,fun b hb=>(LG.1 hb).elim (fun hb=>(by have:=a1 b hb;omega)) (fun hb=>(by have:=a0 b hb;omega))⟩
theorem znP {left:Int} (h1:x.Name.size<=9223372036854775807)(h2:(iH.sl 9).R w w.heap.size [J A0 x.fP.length c0] x.fP)(h3:(iz.sl 159).R w w.heap.size [J A1 x.Expr.length c1] x.Expr)(h00:0<=left)(h01:left<=1099511627776):LR prog 30 #[.agg #[F I x.Kind,G x.Name,J A0 x.fP.length c0,J A1 x.Expr.length c1],F I left] w fun e w'=>e=.returned (F I (kp left (kR x)))/\fF w w':=by
 obtain⟨n0,a2⟩:∃ n,x.Name.size=n:=⟨_,rfl⟩
 obtain⟨n1,a3⟩:∃ n,jz M8 x.fP=n:=⟨_,rfl⟩
 obtain⟨n2,a4⟩:∃ n,jz lS x.Expr=n:=⟨_,rfl⟩
 have HS:=fE (show kR x=n0+n1+n2 from by unfold kR;rw[a2,a3,a4]);have a0:=fE a2;clear a2;have a1:=fE a3;clear a3;have a6:=fE a4;clear a4;by_cases c0':(n0:Int)<=left
 ·skip
  by_cases c1':(n0:Int)+(n1:Int)<=left
  ·skip
   by_cases c2':(n0:Int)+(n1:Int)+(n2:Int)<=left
   ·skip
    have a5:x.Name.size=n0:=a0.out;have e1:kp (left-(n0:Nat)) n1=left-(n0:Nat)-(n1:Nat):=Lu (by omega);have e2:kp (left-(n0:Nat)-(n1:Nat)) n2=left-(n0:Nat)-(n1:Nat)-(n2:Nat):=Lu (by omega);go_enter func30,ntmps30
    go_wp2_with(first
   | (go_at_call 89;(with_reducible refine(yj (xs:=x.fP) (Ty.up _ h2 gG) (by omega) (by omega)).mono ?_);rintro e w1 ⟨rfl,a7,d1,rfl⟩;rw[a1.out])
   | (go_at_call 90;(with_reducible refine(znQ (xs:=x.Expr) (Ty.up _ h3 gG) (by omega) (by omega)).mono ?_);rintro e w2 ⟨rfl,a8,d2,rfl⟩;rw[a6.out]))
    go_ret
    exact⟨kk (by rw[HS.out];unfold kp;rw[Lu (by omega)] <;> omega),gG⟩
   ·have a5:x.Name.size=n0:=a0.out
    have e1:kp (left-(n0:Nat)) n1=left-(n0:Nat)-(n1:Nat):=Lu (by omega);have e2:kp (left-(n0:Nat)-(n1:Nat)) n2 = -1:=Lt (by omega);go_enter func30,ntmps30
    go_wp2_with(first
   | (go_at_call 89;(with_reducible refine(yj (xs:=x.fP) (Ty.up _ h2 gG) (by omega) (by omega)).mono ?_);rintro e w1 ⟨rfl,a7,d1,rfl⟩;rw[a1.out])
   | (go_at_call 90;(with_reducible refine(znQ (xs:=x.Expr) (Ty.up _ h3 gG) (by omega) (by omega)).mono ?_);rintro e w2 ⟨rfl,a8,d2,rfl⟩;rw[a6.out]))
    go_ret
    exact⟨kk (by rw[HS.out];unfold kp;rw[Lt (by omega)]),gG⟩
  ·have a5:x.Name.size=n0:=a0.out
   have e1:kp (left-(n0:Nat)) n1 = -1:=Lt (by omega);go_enter func30,ntmps30
   go_wp2_with(first
   | (go_at_call 89;(with_reducible refine(yj (xs:=x.fP) (Ty.up _ h2 gG) (by omega) (by omega)).mono ?_);rintro e w1 ⟨rfl,a7,d1,rfl⟩;rw[a1.out]))
   go_ret;exact⟨kk (by rw[HS.out];unfold kp;rw[Lt (by omega)]),gG⟩
 ·have a5:x.Name.size=n0:=a0.out
  go_enter func30,ntmps30;go_wp2;go_ret;exact⟨kk (by rw[HS.out];unfold kp;rw[Lt (by omega)]),gG⟩
theorem zmW {B0:K Mh} {d0:Nat} {B1:K Mh} {d1:Nat} (h2:(iH.sl 9).R w w.heap.size [J A0 x.fP.length c0] x.fP)(h3:(iz.sl 159).R w w.heap.size [J A1 x.Expr.length c1] x.Expr)(k2:(iH.sl 9).R w w.heap.size [J B0 y.fP.length d0] y.fP)(k3:(iz.sl 159).R w w.heap.size [J B1 y.Expr.length d1] y.Expr):LR prog 54 #[.agg #[F I x.Kind,G x.Name,J A0 x.fP.length c0,J A1 x.Expr.length c1],.agg #[F I y.Kind,G y.Name,J B0 y.fP.length d0,J B1 y.Expr.length d1]] w fun e w'=>e=.returned (X (decide (x=y)))/\fF w w':=by
 go_enter func54,ntmps54
 go_wp2_with(first
   | (go_at_call 122;(with_reducible refine(Gb (xs:=x.fP) (ys:=y.fP) (Ty.up _ h2 gG) (Ty.up _ k2 gG)).mono ?_);rintro e w2 ⟨rfl,a0,d2,rfl⟩)
   | (go_at_call 123;(with_reducible refine(zq3 (xs:=x.Expr) (ys:=y.Expr) (Ty.up _ h3 gG) (Ty.up _ k3 gG)).mono ?_);rintro e w3 ⟨rfl,a1,d3,rfl⟩))
 all_goals
  go_ret
  refine⟨zy ?_,gG⟩
  simp_all [Iw,tg]
structure gd where
 p:Q fG
 inl:Int
 gm:Bool
 words:Int
 args:Int
structure fL where
 f:Int
 chain:Q Int
 locals:Q D
 first:Int
 outer:Bool
 leaves:Q Int
structure fW where
 items:Q fS
 depth:Int
 gK:Int
 start:Bool
def fW.gU (m:fW)(l:Q fS):fW:=⟨l,m.depth,m.gK,m.start⟩
def fW.fZ (m:fW)(d:Int):fW:=⟨m.items,d,m.gK,m.start⟩
def fW.iY (m:fW)(d:Int):fW:=⟨m.items,m.depth,d,m.start⟩
def fW.begun (m:fW):fW:=⟨m.items,m.depth,m.gK,M⟩
def mD (E:gd)(m:fW)(code arg line:Int)(chain:Q Int):fS:=
 ⟨⟨code,arg⟩,line,m.start,chain,if (E.gm && decide (0<m.items.length))=M then 0 else m.depth,E.gm && decide (0<m.items.length)⟩
def zv (E:gd)(m:fW)(code arg line:Int)(chain:Q Int):fW:=⟨m.items++[mD E m code arg line chain],m.depth,m.gK,U⟩
def kQ (E:gd)(depth:Int)(s:fL)(i:Int)(store:Bool):Int × Int:=
 (if E.gm=M then (if store=M then 2 else 1) else (if store=M then 4 else 3),
  if E.gm=M then
   (if s.outer=M then (if i<E.args then 1+(E.args-i) else -1-(i-E.args)) else -1-(s.first+i))
  else (if s.outer=M then (if i<E.args then depth+(E.args-i) else depth-1-(i-E.args)) else depth-1-(s.first+i)))
def wS (E:gd)(m:fW)(s:fL)(i line:Int):fW:=
 (zv E m (kQ E m.depth s i U).1 (kQ E m.depth s i U).2 line s.chain).fZ (m.depth+1)
def jC (E:gd)(m:fW)(s:fL)(i line:Int)(chain:Q Int):fW:=
 (zv E m (kQ E m.depth s i M).1 (kQ E m.depth s i M).2 line chain).fZ (m.depth-1)
def zZ (E:gd)(m:fW)(v line:Int)(chain:Q Int):fW:=
 (zv E m 0 v line chain).fZ (m.depth+1)
def zT (E:gd)(fs:Q Int)(m:fW)(g:Int):Bool:=
 decide ((fs.length:Int)-1<E.inl) && (decide (zJ E.p g-g<=9) && (decide ((m.items.length:Int)<200) && !(fs.any fun f=>decide (f=g))))
def m5:Q D->D->Nat->Int
 | [],_,_=>-1
 | y::r,s,i=>if y=s then (i:Int) else m5 r s (i+1)
def nL (p:Q fG)(g:Int):Int:=((zk p).filter fun k=>decide (k<g)).length
def kL (E:gd)(rep:Int->fW->fW)(fs:Q Int)(s:fL)(k:Int)(t:gu)(m:fW):fW:=
 if t.Kind=0 then zZ E m t.gN k s.chain
 else if t.Kind=1 then wS E m s (m5 s.locals t.Name 0) k
 else if t.Kind=7 then
  if zT E fs m (zQ E.p t.Name)=M then rep (zQ E.p t.Name) m
  else (zv E m 12 (nL E.p (zQ E.p t.Name)) k s.chain).fZ (m.depth-t.gN+1)
 else (zv E m (5+t.Kind-2) 0 k s.chain).fZ (m.depth-1)
mutual
def Ex.comp (E:gd)(rep:Int->fW->fW)(fs:Q Int)(s:fL)(k:Int):Ex->fW->fW
 | .node t ks,m=>kL E rep fs s k t (ks.comp E rep fs s k m)
def gj.comp (E:gd)(rep:Int->fW->fW)(fs:Q Int)(s:fL)(k:Int):gj->fW->fW
 | .nil,m=>m
 | .cons e r,m=>r.comp E rep fs s k (e.comp E rep fs s k m)
end
def zL (items:Q fS)(j:Nat)(v:Int):Q fS:=match items[j]? with
 | none=>items
 | some x=>items.set j { x with Op:=⟨x.Op.Code,v⟩ }
def km (items:Q fS)(js:Q Int)(v:Int):Q fS:=js.foldl (fun l j=>zL l j.toNat v) items
def nP (E:gd)(x:fL)(k:Int)(chain:Q Int):Nat->fW->fW
 | 0,m=>m
 | n+1,m=>nP E x k chain n (jC E m x n k chain)
def oS (E:gd)(x:fL)(k:Int)(chain:Q Int):Nat->Nat->fW->fW
 | 0,_,m=>m
 | n+1,i,m=>oS E x k chain n (i+1) (jC E (zZ E m 0 k chain) x i k chain)
def zU (p:Q fG)(g:Int):Q D:=match p[g.toNat]? with
 | none=>[]
 | some x=>x.fP
def m9 (E:gd)(s:fL):Int:=if s.outer=M then s.locals.length-E.args else s.first+s.locals.length
def kS (E:gd)(g k:Int)(s:fL):fL:=⟨g,s.chain++[k],zq E.p g,m9 E s,U,[]⟩
def nG (E:gd)(g k:Int)(s:fL)(m:fW):fW:=
 let x:=kS E g k s
 let m1:=m.iY (max m.gK (m9 E s+x.locals.length))
 let m2:=nP E x k s.chain (zU E.p g).length m1
 let m3:=oS E x k s.chain (x.locals.length-(zU E.p g).length) (zU E.p g).length m2
 if m3.start=M then zv E m3 15 0 k s.chain else m3
def zE (E:gd)(lines:Q Int->fL->fW->fW × Q Int)(fs:Q Int)(k:Int)(s:fL)(g:Int)(m:fW):fW:=
 let m4:=nG E g k s m
 let r:=lines (fs++[g]) (kS E g k s) m4
 (r.1.gU (km r.1.items r.2 r.1.items.length)).fZ (m4.depth+1)
structure iN where
 m:fW
 leaves:Q Int
 fR:Q Int
 fT:Q (Int × Int)
def kV (items:Q fS)(fT:Q (Int × Int))(tgt v:Int):Q fS:=fT.foldl (fun l e=>if e.1=tgt then zL l e.2.toNat v else l) items
def iN.wm (L:iN)(m:fW):iN:=⟨m,L.leaves,L.fR,L.fT⟩
def zV (m:fW)(es:Q (Int × Int))(tgt:Int):fW:=m.gU (kV m.items es tgt m.items.length)
def zR (E:gd)(s:fL)(k:Int)(last:Bool)(L:iN):iN:=
 if s.outer=M then
  (if E.gm=M then L.wm ((zv E L.m 14 E.args k s.chain).fZ (L.m.depth-1))
   else L.wm ((zv E L.m 16 (E.args+16*E.words) k s.chain).fZ (L.m.depth-1)))
 else if last=M then L.wm (L.m.fZ (L.m.depth-1))
 else ⟨(zv E L.m 10 0 k s.chain).fZ (L.m.depth-1),L.leaves++[(L.m.items.length:Int)],L.fR,L.fT⟩
def lI (p:Q fG)(k:Int)(item:Int):Nat->Nat->Q (Int × Int)
 | 0,_=>[]
 | n+1,i=>if zx p i=k then (zJ p i+1,item)::lI p k item n (i+1) else lI p k item n (i+1)
def lK (E:gd)(k:Int)(chain:Q Int)(fR:Q Int):Nat->Nat->fW->fW
 | 0,_,m=>m
 | n+1,i,m=>lK E k chain fR n (i+1) (if zJ E.p i=k/\(E.p[i]?.map fG.Kind)=H 5 then zv E m 10 (fR.getD i 0) k chain else m)
def zip (E:gd)(rep:Int->fW->fW)(fs:Q Int)(s:fL)(k:Int)(xs:Q gu):Nat->Nat->Nat->fW->fW × Nat
 | 0,_,a,m=>(m,a)
 | _+1,0,a,m=>(m,a)
 | f+1,n+1,a,m=>match xs[a]? with
  | none=>(m,a)
  | some t=>zip E rep fs s k xs f n (zip E rep fs s k xs f (iL t).toNat (a+1) m).2 (kL E rep fs s k t (zip E rep fs s k xs f (iL t).toNat (a+1) m).1)
theorem xU {E:gd}{rep:Int->fW->fW}{fs:Q Int}{s:fL}{k:Int}{xs:Q gu}:∀(f:Nat)(ks:gj)(a:Nat)(r:Q gu)(m:fW),ks.wf->xs.drop a=ks.flat++r->ks.size<f->zip E rep fs s k xs f ks.len a m=(ks.comp E rep fs s k m,a+ks.size)
 | 0,_,_,_,_,_,_,hf=>by omega
 | f+1,.nil,a,r,m,_,_,_=>rfl
 | f+1,.cons (.node t ks) q,a,r,m,h,hx,hf=>by
  simp only[gj.flat,Ex.flat,OW,LZ] at hx;simp only[gj.size,Ex.size] at hf;obtain⟨h1,h2⟩:=pw hx;simp only[gj.len,zip,h1];have e1:=xU (E:=E) (rep:=rep) (fs:=fs) (s:=s) (k:=k) f ks (a+1) _ m h.1.2.2 h2 (by omega);rw[h.1.2.1,Lw,e1]
  have h3:xs.drop (a+1+ks.size)=q.flat++r:=by
   rw[<-Nh,h2,<-ks.gw,NP]
  rw[xU f q _ r _ h.2 h3 (by omega)];simp only[gj.comp,Ex.comp,gj.size,Ex.size];congr 1;omega
def nT (E:gd)(rep:Int->fW->fW)(fs:Q Int)(s:fL)(k:Int)(xs:Q gu)(m:fW):fW:=(zip E rep fs s k xs (xs.length+1) 1 0 m).1
theorem uS {E:gd} {rep:Int->fW->fW} {fs:Q Int} {s:fL} {k:Int} {m:fW} {e:Ex} (h:e.wf):nT E rep fs s k e.flat m=e.comp E rep fs s k m:=by
 unfold nT;have:=xU (E:=E) (rep:=rep) (fs:=fs) (s:=s) (k:=k) (xs:=e.flat) (e.flat.length+1) (.cons e .nil) 0 [] m ⟨h,trivial⟩ (by simp[gj.flat]) (by simp only[gj.size,e.gw];omega);simp only[gj.len,Mb] at this;rw[this];simp[gj.comp]
def je (E:gd)(rep:Int->fW->fW)(fs:Q Int)(s:fL)(e k:Nat)(x:fG)(L:iN):iN:=
 let m0:=zV L.m L.fT k
 if x.Kind=4 then
  let ex:=L.fT++lI E.p k L.m.items.length (k-s.f.toNat) s.f.toNat
  ⟨zV (zv E m0 10 0 k s.chain) ex (-(k:Int)),L.leaves,L.fR,ex⟩
 else if x.Kind=7 then
  if k=e then zR E s k M (L.wm (zZ E m0 0 k s.chain))
  else L.wm (lK E k s.chain L.fR (k-(s.f.toNat+1)) (s.f.toNat+1) m0)
 else
  let m1:=nT E rep fs s k x.Expr m0.begun
  let L1:iN:=⟨m1,L.leaves,L.fR.set k L.m.items.length,L.fT⟩
  if x.Kind=1 then L1.wm (jC E m1 s (m5 s.locals x.Name 0) k s.chain)
  else if x.Kind=2 then L1.wm ((zv E m1 17 0 k s.chain).fZ (m1.depth-1))
  else if x.Kind=6 then zR E s k U L1
  else ⟨(zv E m1 11 0 k s.chain).fZ (m1.depth-1),L.leaves,L.fR.set k L.m.items.length,L.fT++[(if x.Kind=3/\0<=zx E.p k then -(zx E.p k) else zJ E.p k+1,(m1.items.length:Int))]⟩
def nA (E:gd)(rep:Int->Int->fW->fW)(fs:Q Int)(s:fL)(e:Nat):Q fG->Nat->Nat->iN->iN
 | _,0,_,L=>L
 | [],_+1,_,L=>L
 | x::r,n+1,k,L=>nA E rep fs s e r n (k+1) (je E (rep k) fs s e k x L)
def qv (E:gd)(rep:Q Int->fL->Int->Int->fW->fW)(fs:Q Int)(s:fL)(m:fW):fW × Q Int:=
 let e:=(zJ E.p s.f).toNat
 let L:=nA E (rep fs s) fs s e (E.p.drop (s.f.toNat+1)) (e-s.f.toNat) (s.f.toNat+1) ⟨m,s.leaves,Mz E.p.length 0,[]⟩
 (L.m,L.leaves)
def zH (E:gd):Nat->Q Int->fL->fW->fW × Q Int
 | 0=>fun _ _ m=>(m,[])
 | d+1=>qv E fun fs s k g m=>zE E (zH E d) fs k s g m
def kB (b:gC)(f:Nat):Bool:=decide (b.Frames / 2 ^ f % 2=1)
def kH (p:Q fG)(b:gC)(f:Nat)(words:Int):Q fS × Int:=
 let line:=((zk p)[f]?).getD 0
 let args:=(zU p line).length
 let s:fL:=⟨line,[],zq p line,0,M,[]⟩
 let E:gd:=⟨p,b.Inline,kB b f,words,args⟩
 let m0:fW:=⟨[],0,(zq p line).length-args,U⟩
 let m1:=(zv E m0 (if kB b f=M then 13 else 15) words line []).fZ words
 let r:=zH E 4 [line] s m1
 (r.1.items,r.1.gK)
def jG (b:gC):Bool:=gW b.Frames 0 63 && gW b.Inline 0 3
def jY (p:Q fG)(b:gC)(f:Nat):Q fS:=
 let q:=if b.Fold=M then mh p else p
 (kH q b f (kH q b f 0).2).1
def zG (p:Q fG)(k:Int):Int:=((p[k.toNat]?).map fG.Kind).getD (-1)
theorem yN {α:Type}{T:Ty α}{w:N}(hf:∀{cs x S},T.O w cs x S->S = []):∀(xs:Q α)(ecs:Q LA)(S:Q Nat)(k:Nat),Rows T w ecs xs S->S = []/\Rows T w (ecs.take (k*T.size)) (xs.take k) []
 | [],_,_,k,h=>by
  obtain⟨rfl,rfl⟩:=h;exact⟨rfl,by simp[Rows]⟩
 | x::xs,_,_,0,h=>by
  obtain⟨c1,c2,S1,S2,rfl,rfl,h3,h4⟩:=h;obtain rfl:=hf h3;obtain⟨rfl,_⟩:=yN hf xs c2 S2 0 h4;exact⟨rfl,by simp[Rows]⟩
 | x::xs,_,_,k+1,h=>by
  obtain⟨c1,c2,S1,S2,rfl,rfl,h3,h4⟩:=h;obtain rfl:=hf h3;obtain⟨rfl,h5⟩:=yN hf xs c2 S2 k h4;refine⟨rfl,c1,c2.take (k*T.size),[],[],?_,rfl,h3,h5⟩;have hl:=T.iZ h3;have e1:(k+1)*T.size-c1.length=k*T.size:=by rw[hl,Nat.succ_mul,Nat.add_sub_cancel]
  rw[List.take_append,e1,MA (by rw[hl,Nat.succ_mul];omega)]
theorem Has.cut {α:Type} {T:Ty α} (hf:∀{cs x S},T.O W cs x S->S = []){e:TypeId}{A:K Mh}{n c k:Nat}{xs:Q α}{S:Q Nat}(h:Has (T.sl e) W [J A n c] xs S)(hk:k<=n):Has (T.sl e) W [J A k c] (xs.take k) S:=by
 obtain⟨⟨A',c',a1,S',h1,h2,h3,rfl⟩,hn⟩:=h;injection h1 with h1 _
 injection h1 with hA hn' hc
 subst hA hn' hc;have a0:(xs.take k).length=k:=by rw[MG];omega
 obtain⟨g1,g2⟩:=h2;obtain⟨rfl,h4⟩:=yN hf xs a1 S' k h3;refine⟨⟨A,c,a1.take (k*T.size),[],by rw[a0],⟨by rw[h4.len],?_⟩,h4,rfl⟩,hn⟩;rw[a0];rcases g2 with⟨hv,h0⟩ | ⟨g,a3,a2,hv,hb,hg,hc,hm,hs,ht⟩
 ·injection hv with hA hn' hc
  subst hA hc;exact .inl ⟨by rw[show k=0 from by omega],by omega⟩
 ·injection hv with hA hn' hc'
  subst hA hc';refine .inr ⟨g,c,a2,rfl,hb,hg,by omega,hm,hs,?_⟩;rw[<-ht,List.take_take,N7 (Nat.mul_le_mul_right _ hk)]
theorem AB {e:TypeId} {B:Nat} {A:K Mh} {c:Nat} {xs:Q fS} (h:(lL.sl e).R w B [J A n c] xs){k:Nat}(hk:k<xs.length) :
  ∃ g off x A0 c0,A=H ⟨g,off,V⟩/\g<B/\xs[k]?=H x/\Lg w ⟨g,off+k*7,V⟩=H (F I x.Op.Code)/\Lg w ⟨g,off+k*7+1,V⟩=H (F I x.Op.Arg)/\Lg w ⟨g,off+k*7+2,V⟩=H (F I x.fN)/\Lg w ⟨g,off+k*7+3,V⟩=H (X x.Start)/\Lg w ⟨g,off+k*7+4,V⟩=H (J A0 x.fH.length c0)/\Lg w ⟨g,off+k*7+5,V⟩=H (F I x.fK)/\Lg w ⟨g,off+k*7+6,V⟩=H (X x.fI)/\fV x.Op.Code/\fV x.Op.Arg/\fV x.fN/\(zF.sl 3).R w B [J A0 x.fH.length c0] x.fH/\fV x.fK:=by
 obtain⟨g,off,x,ec,h1,hB,h2,h3,h4⟩:=om h hk;obtain⟨A0,c0,rfl,hf⟩:=J2 h3;exact⟨g,off,x,A0,c0,h1,hB,h2,h4 0 _ rfl,h4 1 _ rfl,h4 2 _ rfl,h4 3 _ rfl,h4 4 _ rfl,h4 5 _ rfl,h4 6 _ rfl,hf⟩
theorem F2:(prog.info? 131).map (fun i=>(i.zero,i.size,i.bytes))=H (H (.agg #[F I 0,F I 0,F I 0,X U,J V 0 0,F I 0,X U]),7,72):=by kernel_rfl
theorem Eu:iI prog 125 131 lL 72:=by
 obtain⟨i0,hi,a0,a1,a2⟩:=Nf F2;exact⟨underlying125,⟨i0,_,hi,a0,a1,a2,rfl⟩,by decide⟩
open Go.RowKit Go.Maps Go.ChangeMaps Go.MapKept
def jg (g:Int->K Int)(a v:Int):Int->K Int:=fun x=>if x=a then H v else g x
def rv (g:Int->K Int)(a:Int):Int->K Int:=fun x=>if x=a then V else g x
def qx (a:Int):Lit:=Lit.int I a
theorem vj (h:fV a):(Lit.int I a).wf=M:=by
 obtain⟨h1,h2⟩:=h;exact WalkArith.wf_i64 (by omega)
theorem DO (w:N):(zeroValue 3).run prog w=.ok (F I 0) w:=by kernel_rfl
theorem wH:Keyed prog 3:=int_keyed underlying3
def gY (W:N)(b n:Nat)(f:Int->K Int):Prop:=
 ∃ Lf:DataW Unit,W.ownsMap prog 3 (plainElem prog 3) b n Lf/\(∀ a,fV a->f a=V->Maps.has Lf (qx a)=U)/\(∀ a v,fV a->f a=H v->Maps.has Lf (qx a)=M/\Lf.atKey (qx a) (.lit (Lit.int I 0))=.lit (Lit.int I v))/\∀ a v,f a=H v->fV v
theorem gY.made (w:N):gY (w.alloc (.map #[] 0)) w.heap.size 0 (fun _=>V):=
 ⟨.map [],World.ownsMap_made _ _ _ _,fun a _ _=>rfl,fun a v _ h=>absurd h (by simp),fun a v h=>absurd h (by simp)⟩
theorem gY.lt {W:N}{b n:Nat}{f:Int->K Int}(h:gY W b n f):b<W.heap.size:=by
 obtain⟨Lf,h1,_⟩:=h;exact h1.lt
theorem gY.at {f:Int->K Int} (h:gY W b n f)(hb:W'.heap[b]?=W.heap[b]?):gY W' b n f:=by
 obtain⟨Lf,⟨es,a0,h1,h2⟩,h3⟩:=h;exact⟨Lf,⟨es,a0,hb.trans h1,h2⟩,h3⟩
theorem gY.fU {f:Int->K Int} {S:Q Nat} (h:gY W b n f)(ho:fJ S W W')(hb:b∉S):gY W' b n f:=h.at (ho.block b h.lt hb)
theorem gY.fO {f:Int->K Int} (h:gY W b n f)(hg:fF W W'):gY W' b n f:=h.fU (hg.only []) (by simp)
theorem CU (h:∃ o:Obj,W'=setBlock W b o):fJ [b] W W':=by
 obtain⟨o,rfl⟩:=h;refine⟨rfl,rfl,rfl,by simp[setBlock],fun k hk hn=>?_⟩;simp only[Lr] at hn;unfold setBlock;simp only;rw[Array.getElem?_setIfInBounds];simp[Ne.symm hn]
theorem gY.look {f:Int->K Int} (h:gY W b n f){a v:Int}(ha:fV a)(hf:f a=H v):(Instr.lookup 284 (.map (H b)) (F I a) U).run prog W=.ok (F I v) W:=by
 obtain⟨Lf,h1,h2,h3,h4⟩:=h;obtain⟨c,a0,a1,_⟩:=h1.lookup_int wH underlying284 underlying3 (DO W) (keyOf_int_mk underlying3 (vj ha));obtain⟨_,h5⟩:=h3 a v ha hf;have h6:=a1.symm.trans h5;replace h6:=(Lit.int.inj (DataW.lit.inj h6)).2;rw[<-h6];exact a0
theorem sr {g:Prop} (f:g:=by
  have h7:=hc.1.symm.trans h6
  replace h7:=(Lit.int.inj (DataW.lit.inj h7)).2
  have hrun:_=Result.ok (Value.tuple #[F I c,X (Maps.has Lf (qx a))]) W:=hrun
  rw[h5,h7] at hrun
  exact hrun):g:=f
theorem gY.look_ok {W:N}{b n:Nat}{f:Int->K Int}(h:gY W b n f){a:Int}(ha:fV a):(Instr.lookup 284 (.map (H b)) (F I a) M).run prog W=.ok (.tuple #[F I ((f a).getD 0),X (f a).isSome]) W:=by
 obtain⟨Lf,h1,h2,h3,h4⟩:=h;have a0:(Lit.int I 0).wf=M:=by decide
 obtain⟨v,ps,hrun,hv⟩:=h1.look_ok wH underlying284 (DO W) (plainElem_int underlying3 a0) (keyOf_int_mk underlying3 (vj ha));obtain⟨c,rfl,hc,_⟩:=plainElem_int_inv underlying3 hv;simp only[Prod.mk.injEq] at hc;cases hf:f a with
 | none=>
  have h5:=h2 a ha hf;have h6:=atKey_of_not_has h5 (.lit (Lit.int I 0));exact sr
 | some v=>
  obtain⟨h5,h6⟩:=h3 a v ha hf;exact sr
theorem D1:WideAt.IsKeyLit (qx a):=by unfold qx;trivial
theorem ue {b:Int} (h:a≠b):qx a≠qx b:=fun hh=>by
 unfold qx at hh;injection hh with _ hh
 exact h hh
theorem gY.store {W:N}{b n:Nat}{f:Int->K Int}(h:gY W b n f){a v:Int}(ha:fV a)(hv:fV v)(hn:n<maxLen):∃ W',(Instr.mapUpdate 284 (.map (H b)) (F I a) (F I v)).run prog W=.ok () W'/\gY W' b (n+1) (jg f a v)/\fJ [b] W W':=by
 obtain⟨Lf,h1,h2,h3,h4⟩:=h;obtain⟨W',a2,a1,es,a3,a4,a0,hb,hW⟩:=h1.store wH underlying284 hn (keyOf_int_mk underlying3 (vj ha)) (show plainElem prog 3 (F I v)=H ((DataW.lit (Lit.int I v):DataW Unit),[]) from plainElem_int underlying3 (vj hv));refine⟨W',a2,⟨_,a1,fun c hc hf=>?_,fun c u hc hf=>?_,fun c u hf=>?_⟩,CU ⟨_,hW⟩⟩
 ·unfold jg at hf
  by_cases hca:c=a
  ·rw[Lu hca] at hf;cases hf
  ·rw[Lt hca] at hf
   exact(has_put_other (ue hca) _).trans (h2 c hc hf)
 ·unfold jg at hf
  by_cases hca:c=a
  ·rw[Lu hca] at hf
   injection hf with hf
   subst hca hf;exact⟨has_put_same h1.isMap D1 _,atKey_put_same h1.isMap D1 _ _⟩
  ·rw[Lt hca] at hf
   obtain⟨h5,h6⟩:=h3 c u hc hf;exact⟨(has_put_other (ue hca) _).trans h5,(atKey_put_other (ue hca) _ _).trans h6⟩
 ·unfold jg at hf
  by_cases hca:c=a
  ·rw[Lu hca] at hf
   injection hf with hf
   rw[<-hf];exact hv
  ·rw[Lt hca] at hf
   exact h4 c u hf
theorem gY.drop {W:N}{b n:Nat}{f:Int->K Int}(h:gY W b n f){a:Int}(ha:fV a)(ty:TypeId):∃ W',(Builtin.delete_ #[284,3] ty #[.map (H b),F I a]).run prog W=.ok (.tuple #[]) W'/\gY W' b n (rv f a)/\fJ [b] W W':=by
 obtain⟨Lf,h1,h2,h3,h4⟩:=h;obtain⟨W',a2,a1,es,a3,a4,a0,hb,hW⟩:=h1.drop wH underlying284 (keyOf_int_mk underlying3 (vj ha)) ty;refine⟨W',a2,⟨_,a1,fun c hc hf=>?_,fun c u hc hf=>?_,fun c u hf=>?_⟩,CU ⟨_,hW⟩⟩
 ·unfold rv at hf
  by_cases hca:c=a
  ·subst hca;exact has_del_same
  ·rw[Lt hca] at hf
   exact(has_del_other (ue hca)).trans (h2 c hc hf)
 ·unfold rv at hf
  by_cases hca:c=a
  ·rw[Lu hca] at hf;cases hf
  ·rw[Lt hca] at hf
   obtain⟨h5,h6⟩:=h3 c u hc hf;exact⟨(has_del_other (ue hca)).trans h5,(atKey_del_other (ue hca) _).trans h6⟩
 ·unfold rv at hf
  by_cases hca:c=a
  ·rw[Lu hca] at hf;cases hf
  ·rw[Lt hca] at hf
   exact h4 c u hf
section
variable {P:Program} {ops:Array Oper} {rest:Q Oper} {o:Oper} {a:Act} {Ld:Exit->Act->N->Prop} {w:N}
theorem xz {f:Int->K Int} {k u:Int} (h:gY w b n f)(hk:fV k)(hu:fV u)(hn:n<maxLen)(hg:o.guard=V)(m x v:Operand)(hop:o.op=Op.mapUpdate 284 m x v)
  (hm:a.eval m=.map (H b)) (hx:a.eval x=F I k) (hv:a.eval v=F I u) (hK:∀ w',gY w' b (n+1) (jg f k u)->fJ [b] w w'->wpList prog ops Ld rest (a.put o.dst undef) w'):wpList prog ops Ld (o::rest) a w:=by
 refine Ot hg fun K' hK'=>?_;obtain⟨w',a0,r1,r2⟩:=h.store hk hu hn;unfold Oper.wp;simp[execOp,hop,hm,hx,hv,a0,Result.andThen];exact hK' _ _ (hK w' r1 r2)
theorem EW {f:Int->K Int} {k:Int} (h:gY w b n f)(hk:fV k)(hg:o.guard=V)(m x:Operand)(hop:o.op=Op.call { callee:=Callee.builtin Builtin.delete,args:=#[m,x],argTypes:=#[284,3] })
  (hm:a.eval m=.map (H b)) (hx:a.eval x=F I k) (hK:∀ w',gY w' b n (rv f k)->fJ [b] w w'->wpList prog ops Ld rest (a.put o.dst (.tuple #[])) w'):wpList prog ops Ld (o::rest) a w:=by
 refine Ot hg fun K' hK'=>?_;obtain⟨w',a0,r1,r2⟩:=h.drop hk o.type;unfold Oper.wp;simp[execOp,hop,resolve,invoke,builtin,hm,hx,a0,Result.andThen];exact hK' _ _ (hK w' r1 r2)
end
end Go.Proofs.YtiihkapmggfjkaaGreat
