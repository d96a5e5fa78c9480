/-
  PART.
-/
import Derived.Test.YtiihkapmggfjkaaGreatM8LawMakeDebug
import Derived.Deep.RegionLaw
import Derived.Deep.LoopGhost
set_option linter.unusedVariables false
set_option linter.unusedSimpArgs false
set_option maxRecDepth 100000
set_option maxHeartbeats 8000000
namespace Go.Proofs.YtiihkapmggfjkaaGreat
open Value renaming slice->J,int->F,bool->X,string->G
open IntKind renaming i64->I
open Option renaming none->V,some->H
open Obj renaming cells->C
open Bool renaming false->U,true->M
open Go renaming World->N,Value->LA,Calls->LR,Addr->Mh
open World renaming cell?->Lg
open _root_.Int renaming toNat_natCast->Lw,natCast_mul->Ni
open List renaming length_cons->LJ,cons_append->OW
open RowKit renaming intOf->Ml
open Tryz
open Go.RowKit
variable {A:K Mh}{a c e i j k n:Nat}{p:Q fG}{v:LA}{w:N}{x:fG}{xs:Q gu}
def emp:D:=⟨#[]⟩
def kq (t:gu):Bool:=
 if t.Kind=0 then gW t.gN 0 999 && decide (t.Name=emp)
 else if t.Kind=1 then decide (t.gN=0) && mZ t.Name
 else if t.Kind=7 then gW t.gN 0 4 && mZ t.Name
 else gW t.Kind 2 6 && (decide (t.gN=0) && decide (t.Name=emp))
def iL (t:gu):Int:=if kq t=M then (if t.Kind=7 then t.gN else if t.Kind=0∨t.Kind=1 then 0 else 2) else -1
theorem uR {t:gu} (h:kq t=M):0<=iL t/\iL t<=4:=by
 unfold iL;rw[Lu h];split
 ·rename_i hk
  unfold kq at h;rw[Lt (by omega),Lt (by omega),Lu hk,LC,zX] at h;exact h.1
 ·split <;> omega
def l5:Q gu->Nat->Nat->Int
 | _,0,k=>k
 | [],_+1,_=>-1
 | t::r,n+1,k=>if kq t=M then l5 r (n+(iL t).toNat) (k+1) else -1
def jT (xs:Q gu)(a:Int):Int:=if a<0 then -1 else l5 (xs.drop a.toNat) 1 a.toNat
def l4 (xs:Q gu):Bool:=decide (0<xs.length) && (decide (xs.length<=20) && decide (jT xs 0=xs.length))
mutual
inductive Ex where
 | node:gu->gj->Ex
inductive gj where
 | nil:gj
 | cons:Ex->gj->gj
end
mutual
def Ex.flat:Ex->Q gu
 | .node t ks=>t::ks.flat
def gj.flat:gj->Q gu
 | .nil=>[]
 | .cons e r=>e.flat++r.flat
end
mutual
def Ex.size:Ex->Nat
 | .node _ ks=>ks.size+1
def gj.size:gj->Nat
 | .nil=>0
 | .cons e r=>e.size+r.size
end
def gj.len:gj->Nat
 | .nil=>0
 | .cons _ r=>r.len+1
mutual
def Ex.wf:Ex->Prop
 | .node t ks=>kq t=M/\iL t=ks.len/\ks.wf
def gj.wf:gj->Prop
 | .nil=>True
 | .cons e r=>e.wf/\r.wf
end
mutual
theorem Ex.gw:∀ e:Ex,e.flat.length=e.size
 | .node t ks=>by simp only[Ex.flat,Ex.size,LJ,gj.gw ks]
theorem gj.gw:∀ ks:gj,ks.flat.length=ks.size
 | .nil=>rfl
 | .cons e r=>by simp only[gj.flat,gj.size,Lj,Ex.gw e,gj.gw r]
end
theorem Ex.size_pos:∀ e:Ex,0<e.size
 | .node _ _=>by simp only[Ex.size];omega
theorem gj.jd:∀ ks:gj,ks.len<=ks.size
 | .nil=>Lz _
 | .cons e r=>by
  have h1:=gj.jd r;have h2:=e.size_pos;simp only[gj.len,gj.size];omega
mutual
theorem Ex.lA:∀(e:Ex),e.wf->∀(r:Q gu)(n k:Nat),l5 (e.flat++r) (n+1) k=l5 r n (k+e.size)
 | .node t ks,h,r,n,k=>by
  obtain⟨h1,h2,h3⟩:=h;simp only[Ex.flat,OW,Ex.size,l5];rw[Lu h1,h2,Lw,gj.lA ks h3];congr 1;omega
theorem gj.lA:∀(ks:gj),ks.wf->∀(r:Q gu)(n k:Nat),l5 (ks.flat++r) (n+ks.len) k=l5 r n (k+ks.size)
 | .nil,_,r,n,k=>rfl
 | .cons e q,h,r,n,k=>by
  simp only[gj.flat,gj.len,gj.size,LZ];rw[<-Nat.add_assoc,Ex.lA e h.1,gj.lA q h.2];congr 1;omega
end
def gj.split:Nat->gj->gj × gj
 | 0,ks=>(.nil,ks)
 | _+1,.nil=>(.nil,.nil)
 | n+1,.cons e r=>(.cons e (gj.split n r).1,(gj.split n r).2)
theorem gj.mJ:∀(n:Nat)(ks:gj),n<=ks.len->ks.wf->(gj.split n ks).1.len=n/\(gj.split n ks).1.wf/\(gj.split n ks).2.wf/\(gj.split n ks).2.len=ks.len-n/\(gj.split n ks).1.flat++(gj.split n ks).2.flat=ks.flat/\(gj.split n ks).1.size+(gj.split n ks).2.size=ks.size
 | 0,ks,_,h=>⟨rfl,trivial,h,rfl,rfl,by simp[gj.split,gj.size]⟩
 | n+1,.nil,hn,_=>absurd hn (by simp[gj.len])
 | n+1,.cons e r,hn,h=>by
  obtain⟨h1,h2,h3,h4,h5,h6⟩:=gj.mJ n r (by simp only[gj.len] at hn;omega) h.2;simp only[gj.split,gj.len,gj.flat,gj.size,LZ,h5];exact⟨by omega,⟨h.1,h2⟩,h3,by omega,trivial,by omega⟩
theorem Cs:∀(xs:Q gu)(n k:Nat)(m:Int),l5 xs n k=m->0<=m->∃(ks:gj)(r:Q gu),ks.len=n/\ks.wf/\xs=ks.flat++r/\m=k+ks.size
 | xs,0,k,m,h,_=>⟨.nil,xs,rfl,trivial,rfl,by cases xs <;> (simp only[l5] at h;simp only[gj.size];omega)⟩
 | [],n+1,k,m,h,hm=>by simp only[l5] at h;omega
 | t::r,n+1,k,m,h,hm=>by
  simp only[l5] at h;cases ht:kq t with
  | false=>rw[Lt (by simp[ht])] at h;omega
  | true=>
   rw[Lu ht] at h;have ha:=uR ht;obtain⟨ks,r',h1,h2,h3,h4⟩:=Cs r _ _ m h hm;obtain⟨g1,g2,g3,g4,g5,g6⟩:=gj.mJ (iL t).toNat ks (by omega) h2;refine⟨.cons (.node t (gj.split (iL t).toNat ks).1) (gj.split (iL t).toNat ks).2,r',?_,⟨⟨ht,by rw[g1];omega,g2⟩,g3⟩,?_,?_⟩
   ·simp only[gj.len,g4];omega
   ·rw[h3];simp only[gj.flat,Ex.flat,OW,<-g5,LZ]
   ·simp only[gj.size,Ex.size];omega
theorem FQ {m:Int} (h:jT xs a=m)(hm:0<=m):∃(e:Ex)(r:Q gu),e.wf/\xs.drop a=e.flat++r/\m=a+e.size:=by
 unfold jT at h;rw[Lt (by omega),Lw] at h;obtain⟨ks,r,h1,h2,h3,h4⟩:=Cs _ _ _ m h hm
 match ks,h1,h2,h3,h4 with
 | .cons e .nil,_,h2,h3,h4=>exact⟨e,r,h2.1,by simpa[gj.flat] using h3,by simpa[gj.size] using h4⟩
theorem uN {e:Ex} {r:Q gu} (he:e.wf)(h:xs.drop a=e.flat++r):jT xs a=((a+e.size:Nat):Int):=by
 unfold jT;rw[Lt (by omega),Lw,h,Ex.lA e he r 0 a];cases r <;> rfl
theorem Cj (h:l4 xs=M):∃ e:Ex,e.wf/\xs=e.flat/\xs.length<=20:=by
 unfold l4 at h;simp only[LC,LQ] at h;obtain⟨h1,h2,h3⟩:=h;obtain⟨e,r,g1,g2,g3⟩:=FQ (a:=0) (m:=xs.length) h3 (by omega);rw[Mt] at g2;refine⟨e,g1,?_,h2⟩;have hl:=MY List.length g2;rw[Lj,e.gw] at hl;have hr:r.length=0:=by omega
 rw[M3.1 hr,MC] at g2;exact g2
theorem Ex.ok {e:Ex} (he:e.wf)(h:e.size<=20):l4 e.flat=M:=by
 unfold l4;simp only[LC,LQ,e.gw];refine⟨e.size_pos,h,?_⟩;have:=uN (xs:=e.flat) (a:=0) (e:=e) (r:=[]) he (by simp);rw[show ((0:Nat):Int)=0 from rfl] at this;rw[this];simp
def gj.gD:gj->Nat->Q Int
 | .nil,_=>[]
 | .cons e r,k=>(k:Int)::r.gD (k+e.size)
theorem gj.iO:∀(ks:gj)(k:Nat),(ks.gD k).length=ks.len
 | .nil,_=>rfl
 | .cons _ r,k=>by simp[gj.gD,gj.len,gj.iO r]
theorem pw {α:Type} {xs:Q α} {x:α} {r:Q α} (h:xs.drop k=x::r):xs[k]?=H x/\xs.drop (k+1)=r:=by
 constructor
 ·have:=MY (fun l=>l[0]?) h
  simpa[NO] using this
 ·rw[<-Nh,h];rfl
def kn (k:Int):Bool:=decide (k=0) || (decide (k=3) || decide (k=5))
def jf (x:fG):Int:=if kn x.Kind=M then 1 else if x.Kind=7 then -1 else 0
def zu (p:Q fG)(i:Nat):Int:=((p.take i).map jf).sum
theorem mc (h:p[i]?=H x):zu p (i+1)=zu p i+jf x:=by
 obtain⟨h1,rfl⟩:=Lh.1 h;unfold zu;rw[List.take_succ_eq_append_getElem h1,Nu,List.sum_append];simp
theorem qe (x:fG):(kn x.Kind=M/\jf x=1)∨(kn x.Kind=U/\x.Kind=7/\jf x = -1)∨(kn x.Kind=U/\x.Kind≠7/\jf x=0):=by
 unfold jf;cases h:kn x.Kind with
 | true=>exact .inl ⟨rfl,rfl⟩
 | false=>
  by_cases h7:x.Kind=7
  ·exact .inr (.inl ⟨rfl,h7,by simp[h7]⟩)
  ·exact .inr (.inr ⟨rfl,h7,by simp[h7]⟩)
def mY:Q fG->Int->Nat->Int
 | [],_,_=>-1
 | x::r,o,i=>if o+jf x=0 then (i:Int) else mY r (o+jf x) (i+1)
def zJ (p:Q fG)(k:Int):Int:=if k<0 then -1 else match p[k.toNat]? with
 | none=>-1
 | some x=>if kn x.Kind=M then mY (p.drop k.toNat) 0 k.toNat else -1
theorem qh (h:p[i]?=H x)(o:Int):mY (p.drop i) o i=if o+jf x=0 then (i:Int) else mY (p.drop (i+1)) (o+jf x) (i+1):=by
 obtain⟨h1,rfl⟩:=Lh.1 h;rw[LI h1];rfl
structure gg (p:Q fG)(k e:Nat):Prop where
 op:∃ x,p[k]?=H x/\kn x.Kind=M
 lt:k<e
 len:e<p.length
 eq:zu p (e+1)=zu p k
 up:∀ i,k<i->i<=e->zu p k<zu p i
theorem Ch {p:Q fG}{k:Nat}:∀(m i:Nat),p.length-i=m->k<=i->(∀ j,k<j->j<=i->zu p k<zu p j)->(i=k->∃ x,p[k]?=H x/\kn x.Kind=M)->
  (mY (p.drop i) (zu p i-zu p k) i = -1/\∀ j,i<=j->j<p.length->zu p (j+1)≠zu p k)∨∃ e:Nat,mY (p.drop i) (zu p i-zu p k) i=(e:Int)/\i<=e/\e<p.length/\zu p (e+1)=zu p k/\∀ j,k<j->j<=e->zu p k<zu p j
 | 0,i,hm,hk,hu,h0=>by
  rw[MU (by omega)];exact .inl ⟨rfl,fun j h1 h2=>by omega⟩
 | m+1,i,hm,hk,hu,h0=>by
  have hi:i<p.length:=by omega
  have hx:p[i]?=H p[i]:=Lo hi;have hs:=mc hx;rw[qh hx,show zu p i-zu p k+jf p[i]=zu p (i+1)-zu p k from by omega];by_cases he:zu p (i+1)-zu p k=0
  ·rw[Lu he]
   exact .inr ⟨i,rfl,Lz _,hi,by omega,hu⟩
  ·rw[Lt he]
   have a1:zu p k<zu p (i+1):=by
    rcases On hk with h | h
    ·obtain⟨x,a0,ho⟩:=h0 h.symm
     subst h;rw[hx] at a0;injection a0 with a0
     rcases qe p[k] with⟨_,h2⟩ | ⟨h2,_⟩ | ⟨h2,_⟩
     ·omega
     ·rw[a0,ho] at h2;cases h2
     ·rw[a0,ho] at h2;cases h2
    ·have h1:=hu i h (Lz _)
     rcases qe p[i] with⟨_,h2⟩ | ⟨_,_,h2⟩ | ⟨_,_,h2⟩ <;> omega
   rcases Ch (p:=p) (k:=k) m (i+1) (by omega) (by omega) (fun j h1 h2=>by
    by_cases hj:j=i+1
    ·subst hj;exact a1
    ·exact hu j h1 (by omega)) (fun h=>by omega) with⟨g1,g2⟩ | ⟨e,g1,g2,g3,g4,g5⟩
   ·exact .inl ⟨g1,fun j h1 h2=>by
     by_cases hj:j=i
     ·subst hj;omega
     ·exact g2 j (by omega) h2⟩
   ·exact .inr ⟨e,g1,by omega,g3,g4,g5⟩
theorem pQ (p:Q fG)(k:Nat):(zJ p k = -1/\∀ e,¬ gg p k e)∨∃ e:Nat,zJ p k=(e:Int)/\gg p k e:=by
 unfold zJ;rw[Lt (by omega),Lw];cases hx:p[k]? with
 | none=>exact .inl ⟨rfl,fun e h=>by obtain⟨x,h1,_⟩:=h.op;rw[hx] at h1;cases h1⟩
 | some x=>
  cases ho:kn x.Kind with
  | false=>exact .inl ⟨by simp[ho],fun e h=>by obtain⟨y,h1,h2⟩:=h.op;rw[hx] at h1;injection h1 with h1;rw[<-h1,ho] at h2;cases h2⟩
  | true=>
   simp only[ho,Nx];have a0:=(Lh.1 hx).1;rcases Ch (p:=p) (k:=k) _ k rfl (Lz _) (fun j h1 h2=>by omega) (fun _=>⟨x,hx,ho⟩) with⟨g1,g2⟩ | ⟨e,g1,g2,g3,g4,g5⟩
   ·rw[Int.sub_self] at g1
    exact .inl ⟨g1,fun e h=>g2 e (by have:=h.lt;omega) h.len h.eq⟩
   ·rw[Int.sub_self] at g1
    refine .inr ⟨e,g1,⟨x,hx,ho⟩,?_,g3,g4,g5⟩;rcases On g2 with h | h
    ·subst h
     have hs:=mc hx;rcases qe x with⟨_,h2⟩ | ⟨h2,_⟩ | ⟨h2,_⟩
     ·omega
     ·rw[ho] at h2;cases h2
     ·rw[ho] at h2;cases h2
    ·exact h
theorem vS (h:zJ p k=(e:Int)):gg p k e:=by
 rcases pQ p k with⟨h1,_⟩ | ⟨e',h1,h2⟩
 ·omega
 ·have:e'=e:=by omega
  subst this;exact h2
theorem gg.uniq {e':Nat} (h:gg p k e)(h':gg p k e'):e=e':=by
 rcases Ob e e' with hl | hl | hl
 ·have:=h'.up (e+1) (by have:=h.lt;omega) (by omega);have:=h.eq;omega
 ·exact hl
 ·have:=h.up (e'+1) (by have:=h'.lt;omega) (by omega);have:=h'.eq;omega
theorem gg.iy (h:gg p k e):zJ p k=(e:Int):=by
 rcases pQ p k with⟨_,h2⟩ | ⟨e',h1,h2⟩
 ·exact absurd h (h2 e)
 ·rw[h1,h.uniq h2]
theorem yC {k:Int} (h:k<0):zJ p k = -1:=by unfold zJ;rw[Lu h]
theorem po (p:Q fG)(k:Int):zJ p k = -1∨∃ a e:Nat,k=(a:Int)/\zJ p k=(e:Int)/\gg p a e:=by
 by_cases hk:k<0
 ·exact .inl (yC hk)
 ·obtain⟨a,rfl⟩:∃ a:Nat,k=(a:Int):=⟨k.toNat,by omega⟩
  rcases pQ p a with⟨h,_⟩ | ⟨e,h1,h2⟩
  ·exact .inl h
  ·exact .inr ⟨a,e,rfl,h1,h2⟩
theorem EF {p:Q fG}{v:Int}:∀(m i j:Nat),j-i=m->i<=j->j<=p.length->v<zu p i->zu p j<=v->∃ e,i<=e/\e<j/\zu p (e+1)=v/\∀ q,i<=q->q<=e->v<zu p q
 | 0,i,j,hm,hij,hl,h1,h2=>by
  have:i=j:=by omega
  subst this;omega
 | m+1,i,j,hm,hij,hl,h1,h2=>by
  have hi:i<p.length:=by omega
  have hs:=mc (Lo hi);by_cases he:zu p (i+1)=v
  ·exact⟨i,Lz _,by omega,he,fun q a b=>by
    have:q=i:=by omega
    subst this;exact h1⟩
  ·have:v<zu p (i+1):=by rcases qe p[i] with⟨_,h⟩ | ⟨_,_,h⟩ | ⟨_,_,h⟩ <;> omega
   obtain⟨e,g1,g2,g3,g4⟩:=EF m (i+1) j (by omega) (by omega) hl this h2
   exact⟨e,by omega,g2,g3,fun q a b=>by
    by_cases hq:q=i
    ·subst hq;exact h1
    ·exact g4 q (by omega) b⟩
theorem gg.inner (h:gg p k e)(h1:k<i)(h2:i<e)(hx:p[i]?=H x)(ho:kn x.Kind=M):∃ e',gg p i e'/\i<e'/\e'<e:=by
 have hl:=h.len;have hs:=mc hx;have hd:jf x=1:=by unfold jf;rw[Lu ho]
 have a0:=h.up i h1 (by omega);obtain⟨e',g1,g2,g3,g4⟩:=EF (p:=p) (v:=zu p i) _ (i+1) (e+1) rfl (by omega) (by omega) (by omega) (by rw[h.eq];omega)
 have:e'≠e:=by
  intro hh;subst hh;have:=h.eq;omega
 exact⟨e',⟨⟨x,hx,ho⟩,by omega,by omega,g3,fun q a b=>g4 q (by omega) b⟩,by omega,by omega⟩
theorem gg.last (h:gg p k e):∃ x,p[e]?=H x/\x.Kind=7:=by
 have hl:=h.len;have hx:p[e]?=H p[e]:=Lo h.len;have hs:=mc hx;have h1:=h.up e h.lt (Lz _);have h2:=h.eq;refine⟨_,hx,?_⟩;rcases qe p[e] with⟨_,h⟩ | ⟨_,h,_⟩ | ⟨_,_,h⟩
 ·omega
 ·exact h
 ·omega
theorem gg.same (h:gg p i e)(h':gg p j e):i=j:=by
 rcases Ob i j with hl | hl | hl
 ·obtain⟨x,hx,ho⟩:=h'.op
  obtain⟨e',g1,_,g3⟩:=h.inner hl h'.lt hx ho;have:=g1.uniq h';omega
 ·exact hl
 ·obtain⟨x,hx,ho⟩:=h.op
  obtain⟨e',g1,_,g3⟩:=h'.inner hl h.lt hx ho;have:=g1.uniq h;omega
theorem Ep {p:Q fG}{v:Int}:∀(m i j:Nat),j-i=m->i<=j->j<=p.length->zu p i<=v->v<zu p j->∃ a,i<=a/\a<j/\zu p a=v/\∀ q,a<q->q<=j->v<zu p q
 | 0,i,j,hm,hij,hl,h1,h2=>by
  have:i=j:=by omega
  subst this;omega
 | m+1,i,j,hm,hij,hl,h1,h2=>by
  have hj:j-1<p.length:=by omega
  have hs:=mc (Lo hj);rw[show j-1+1=j from by omega] at hs;by_cases he:zu p (j-1)=v
  ·exact⟨j-1,by omega,by omega,he,fun q a b=>by
    have:q=j:=by omega
    subst this;exact h2⟩
  ·have h3:v<zu p (j-1):=by rcases qe p[j-1] with⟨_,h⟩ | ⟨_,_,h⟩ | ⟨_,_,h⟩ <;> omega
   obtain⟨a,g1,g2,g3,g4⟩:=Ep m i (j-1) (by omega) (by by_cases hh:i=j;(subst hh;omega);omega) (by omega) h1 h3
   exact⟨a,g1,by omega,g3,fun q a b=>by
    by_cases hq:q=j
    ·subst hq;exact h2
    ·exact g4 q a (by omega)⟩
theorem gg.opener {f:Nat} (h:gg p f e)(h1:f<k)(h2:k<e)(hx:p[k]?=H x)(h7:x.Kind=7):∃ i,f<i/\i<k/\gg p i k:=by
 have hl:=h.len;have hs:=mc hx;have hd:jf x = -1:=by unfold jf;rw[Lt (by rw[h7];decide),Lu h7]
 have a6:=h.up (k+1) (by omega) (by omega);have a1:=h.op;obtain⟨y,hy,a7⟩:=a1;have a5:=mc hy;obtain⟨a,g1,g2,g3,g4⟩:=Ep (p:=p) (v:=zu p (k+1)) _ f k rfl (by omega) (by omega) (by omega) (by omega)
 have a3:a≠f:=by
  intro hh;subst hh;omega
 have a0:p[a]?=H p[a]:=Lo (by omega);have a4:=mc a0;have h5:=g4 (a+1) (by omega) (by omega)
 have a2:kn p[a].Kind=M:=by
  rcases qe p[a] with⟨h,_⟩ | ⟨_,_,h⟩ | ⟨_,_,h⟩
  ·exact h
  ·omega
  ·omega
 exact⟨a,by omega,g2,⟨_,a0,a2⟩,g2,by omega,g3.symm,fun q b c=>by rw[g3];exact g4 q b c⟩
def mx (p:Q fG):Nat->Nat->Int->Int
 | 0,_,_=>-1
 | n+1,i,e=>if (i:Int)<e then (match p[i]? with
   | none=>-1
   | some x=>if x.Kind=3∨x.Kind=5 then mx p n ((zJ p i).toNat+1) e else if x.Kind=4 then (i:Int) else mx p n (i+1) e) else -1
def zx (p:Q fG)(k:Int):Int:=if zJ p k<0 then -1 else match p[k.toNat]? with
 | none=>-1
 | some x=>if x.Kind=3 then mx p p.length (k.toNat+1) (zJ p k) else -1
theorem uJ (h:gg p k e):∀(n i:Nat),k<i->i<=e->e-i<n->mx p n i (e:Int)=if (i:Int)<(e:Int) then (match p[i]? with
   | none=>-1
   | some x=>if x.Kind=3∨x.Kind=5 then mx p (n-1) ((zJ p i).toNat+1) e else if x.Kind=4 then (i:Int) else mx p (n-1) (i+1) e) else -1
 | 0,_,_,_,hn=>by omega
 | n+1,i,h1,h2,hn=>rfl
structure ir (p:Q fG)(k j:Nat):Prop where
 iff:∃ x,p[k]?=H x/\x.Kind=3
 lt:k<j
 np:∃ x,p[j]?=H x/\x.Kind=4
 iX:∃ e,gg p k e/\j<e
 out:∀ i x,k<i->i<j->p[i]?=H x->kn x.Kind=M->x.Kind≠0->∃ e,gg p i e/\e<j
theorem F9 (h:gg p k e)(hk:∃ x,p[k]?=H x/\x.Kind=3):∀(m n i:Nat),e-i=m->k<i->i<=e->e-i<n->(∀ q x,k<q->q<i->p[q]?=H x->kn x.Kind=M->x.Kind≠0->∃ b,gg p q b/\b<i)->
  mx p n i (e:Int) = -1∨∃ j:Nat,mx p n i (e:Int)=(j:Int)/\ir p k j:=by
 intro m;induction m using Nat.strongRecOn with
 | ind m ih=>
  intro n i hm h1 h2 hn ho;rw[uJ h n i h1 h2 hn];by_cases hi:(i:Int)<(e:Int)
  ·rw[Lu hi]
   have a0:i<p.length:=by have:=h.len;omega
   have hx:p[i]?=H p[i]:=Lo a0;rw[hx];simp only;by_cases hki:p[i].Kind=3∨p[i].Kind=5
   ·rw[Lu hki]
    have a1:kn p[i].Kind=M:=by rcases hki with hk | hk <;> (rw[hk];decide)
    obtain⟨e',g1,g2,g3⟩:=h.inner h1 (by omega) hx a1;rw[g1.iy,Lw];refine ih (e-(e'+1)) (by omega) _ _ rfl (by omega) (by omega) (by omega) (fun q x a b c d z=>?_);rcases Ob q i with hq | hq | hq
    ·obtain⟨b',w1,w2⟩:=ho q x a hq c d z
     exact⟨b',w1,by omega⟩
    ·subst hq
     exact⟨e',g1,by omega⟩
    ·by_cases hqe:q=e'
     ·subst hqe
      obtain⟨y,hy,h7⟩:=g1.last;rw[c] at hy;injection hy with hy
      rw[hy,h7] at d;cases d
     ·obtain⟨b',w1,w2,w3⟩:=g1.inner hq (by omega) c d
      exact⟨b',w1,by omega⟩
   ·rw[Lt hki]
    by_cases h4:p[i].Kind=4
    ·rw[Lu h4]
     exact .inr ⟨i,rfl,hk,h1,⟨_,hx,h4⟩,⟨e,h,by omega⟩,ho⟩
    ·rw[Lt h4]
     refine ih (e-(i+1)) (by omega) _ _ rfl (by omega) (by omega) (by omega) (fun q x a b c d z=>?_);by_cases hq:q=i
     ·subst hq
      rw[hx] at c;injection c with c
      subst c;exfalso;unfold kn at d;simp only[NU,LQ] at d;omega
     ·obtain⟨b',w1,w2⟩:=ho q x a (by omega) c d z
      exact⟨b',w1,by omega⟩
  ·rw[Lt hi]
   exact .inl rfl
theorem nI (p:Q fG)(k:Nat):zx p k = -1∨∃ j:Nat,zx p k=(j:Int)/\ir p k j:=by
 unfold zx;rcases pQ p k with⟨h,_⟩ | ⟨e,h1,h2⟩
 ·rw[h];exact .inl rfl
 ·rw[h1,Lt (by omega),Lw]
  obtain⟨x,hx,ho⟩:=h2.op;rw[hx];simp only;by_cases h3:x.Kind=3
  ·rw[Lu h3]
   have:=h2.len;have:=h2.lt;exact F9 h2 ⟨x,hx,h3⟩ _ _ _ rfl (by omega) (by omega) (by omega) (fun q x a b=>by omega)
  ·rw[Lt h3]
   exact .inl rfl
theorem ir.same (h:ir p i k)(h':ir p j k):i=j:=by
 rcases Ob i j with hl | hl | hl
 ·obtain⟨x,hx,h3⟩:=h'.iff
  obtain⟨e,g1,g2⟩:=h.out j x hl h'.lt hx (by rw[h3];decide) (by rw[h3];decide);obtain⟨e',w1,w2⟩:=h'.iX;have:=g1.uniq w1;omega
 ·exact hl
 ·obtain⟨x,hx,h3⟩:=h.iff
  obtain⟨e,g1,g2⟩:=h'.out i x hl h.lt hx (by rw[h3];decide) (by rw[h3];decide);obtain⟨e',w1,w2⟩:=h.iX;have:=g1.uniq w1;omega
theorem FR {α:Type} {T:Ty α} {e:TypeId} (hf:kK T){W0 W W1:N}{B:Nat}{ec:Q LA}{x:α}(hR:T.R W1 B ec x)(hg:fF W0 W){g:Nat}(hgW:g=W.heap.size):gM (T.sl e) W0 (W.alloc (C ec.toArray e)) [J (H ⟨g,0,V⟩) 1 1] [x]:=by
 subst hgW;refine⟨[W.heap.size],qq (xs:=[x]) (Lp W _) (show Rows T _ ec.toArray.toList [x] [] from⟨ec,[],[],[],by simp,rfl,hf hR _,rfl,rfl⟩) (by simp),by simp,fun b hb=>?_⟩;simp at hb;subst hb;exact hg.size
theorem kJ:iI prog 45 3 zF 8:=by
 obtain⟨i0,hi,a0,a1,a2⟩:=Nf B6;exact⟨underlying45,⟨i0,_,hi,a0,a1,a2,rfl⟩,by decide⟩
theorem mj {e:TypeId} {B:Nat} (h:(iz.sl e).R w B [J A n c] xs){k:Nat}(hk:k<xs.length) :
  ∃ g off x ,A=H ⟨g,off,V⟩/\g<B/\xs[k]?=H x/\Lg w ⟨g,off+k*3,V⟩=H (F I x.Kind)/\Lg w ⟨g,off+k*3+1,V⟩=H (F I x.gN)/\Lg w ⟨g,off+k*3+2,V⟩=H (G x.Name)/\fV x.Kind/\fV x.gN/\x.Name.size<=9223372036854775807:=by
 obtain⟨g,off,x,ec,h1,hB,h2,h3,h4⟩:=om h hk;obtain⟨rfl,hf⟩:=Kz h3;exact⟨g,off,x,h1,hB,h2,h4 0 _ rfl,h4 1 _ rfl,h4 2 _ rfl,hf⟩
def tF (_:gu)(k:Int):gu:=⟨k,k+1,lr (k+1+1)⟩
def AG (xs:Q gu)(k:Int):Q gu:=nq tF (fun _=>3) xs k
def uh (xs:Q gu):Nat:=xs.length*3
theorem xv (xs:Q gu)(k:Int):(AG xs k).length=xs.length:=ns _ _
theorem B7:(prog.info? 159).map (fun i=>(i.zero,i.size,i.bytes))=H (H (.agg #[F I 0,F I 0,G ⟨#[]⟩]),3,32):=by kernel_rfl
theorem vi:kK iz:=uP _ (nO zP (nO zP qp))
theorem wQ:iI prog 85 159 iz 32:=by
 obtain⟨i0,hi,a0,a1,a2⟩:=Nf B7;exact⟨underlying85,⟨i0,_,hi,a0,a1,a2,rfl⟩,by decide⟩
theorem sP {g:Prop} (f:g:=by
  go_roundw
  exact⟨j+1,s+n0,by omega,fE (by rw[hs.out,HX.out,HN.out]),by omega,by go_num,by go_num,fE gG⟩
  exact gL):g:=f
theorem znQ {left:Int} (hx:(iz.sl 159).R w w.heap.size [v] xs)(h0:0<=left)(h1:left<=1099511627776) :
  LR prog 90 #[v,F I left] w fun e w'=>e=.returned (F I (kp left (jz lS xs)))/\fF w w':=by
 obtain⟨A,c,rfl,h2,h3⟩:=jV hx;by_cases h:(xs.length:Int)<=left
 ·go_enter func90,ntmps90
  go_wp2_with(fail);go_loopw [1,5] (fun a i wr=>∃(j s:Nat),j<=xs.length/\Hid (s=((xs.take j).map lS).sum)/\(xs.length:Int)+s<=left/\a=F I (left-xs.length-s)/\i=F I j/\Hid (fF w wr)) (fun _ i _=>xs.length-(Ml i).toNat)
  case atStart=>exact⟨0,0,Lv _,rfl,by omega,by simp,rfl,fF.refl _⟩
  case round=>
   obtain⟨j,s,hj,hs,a7,rfl,rfl,hG⟩:=hrel;obtain⟨os,d,rfl⟩:=hG.out;clear hG;by_cases hlt:j<xs.length
   ·obtain⟨g,ab,x,rfl,a6,a2,a8,a9,aa,a4,a5,a0⟩:=mj hx hlt
    have HX:=fE (wP lS a2);have HM:=fE (wT lS xs (j+1));obtain⟨n0,a1⟩:∃ n,lS x=n:=⟨_,rfl⟩
    have HN:=fE a1;clear a2 hx a1;by_cases hsz:(xs.length:Int)+s+n0<=left
    ·have HR:=fE (show kp (left-xs.length-s) n0=left-xs.length-s-n0 from Lu (by omega))
     go_wp2_with(go_at_call 171;refine(zpp (x:=x) a0 (by omega) (by omega)).mono ?_;rw[HN.out,HR.out];rintro e w1 ⟨rfl,a3,d1,rfl⟩);exact sP
    ·have HR:=fE (show kp (left-xs.length-s) n0 = -1 from Lt (by omega))
     have HQ:=fE (show kp left (jz lS xs) = -1 from Lt (by have h1:=HX.out;have h2:=HM.out;have h3:=hs.out;have h4:=HN.out;unfold jz;omega));go_wp2_with(go_at_call 171;refine(zpp (x:=x) a0 (by omega) (by omega)).mono ?_;rw[HN.out,HR.out];rintro e w1 ⟨rfl,a3,d1,rfl⟩);go_ret;exact⟨kk HQ.out.symm,gG⟩
   ·go_wp2
    go_ret
    exact⟨kk (by
     have h3:=hs.out;rw[AP lS (show j=xs.length by omega)] at h3;unfold kp jz;rw[Lu (by omega)]
     omega),gG⟩
 ·have HR:=fE (show kp left (jz lS xs) = -1 from Lt (by unfold jz;omega))
  go_enter func90,ntmps90;go_wp2;go_ret;exact⟨kk HR.out.symm,fF.refl _⟩
theorem zrO (hx:(iz.sl 159).R w w.heap.size [v] xs)(hn:jz lS xs<=1099511627776) :
  LR prog 104 #[v] w (wR iz 159 xs w):=by
 obtain⟨A,c,rfl,h2,h3⟩:=jV hx;obtain⟨i0,hi,a5,a6,a7⟩:=Nf B7;have ah:xs.length<=1099511627776:=LO (tx _ _) hn;have a4:=uy (P:=prog) 85 159 i0 _ underlying85 hi a5 I I xs.length xs.length (Lz _) (by rw[a7];omega) (by omega);rw[a6] at a4;clear a5 a6 a7 hi;go_enter func104,ntmps104;go_wp2_with(fail);go_loopw [4] (fun i wr=>∃(j:Nat) (a0:Array LA) (os:Array Obj) (d:Nat) (S':Q Nat),j<=xs.length/\i=F I j/\Hid (wr=fO (w.alloc (C a0 159)) os d)/\Hid (Rows iz (fO (w.alloc (C a0 159)) os d) (a0.toList.take (j*3)) (xs.take j) S')/\Hid (S'.Nodup)/\Hid (∀ b∈S',w.heap.size+1<=b)/\Hid (a0.size=xs.length*3)) (fun i _=>xs.length-(Ml i).toNat)
 case atStart=>exact⟨0,_,_,_,[],Lv _,rfl,yV,fE (by simp[Rows]),fE Ou,fE (by simp),xy _ _⟩
 case round=>
  obtain⟨j,a0,os,d,S',hj,rfl,hw,hr,hN,hL,a1⟩:=hrel;have ad:=hw.out;subst ad;clear hw a4;by_cases hlt:j<xs.length
  ·obtain⟨g,ao,x,rfl,af,a3,al,am,an,a9,aa,ab⟩:=mj hx hlt
   have ag:j*3+2<a0.size:=by have:=a1.out;omega
   obtain⟨o0,ai⟩:∃ u,a0[j*3]?=H u:=⟨_,MW (by omega)⟩
   obtain⟨o1,aj⟩:∃ u,(a0.setIfInBounds (j*3) (F I x.Kind))[j*3+1]?=H u:=⟨_,MW (by simp only[MQ];omega)⟩
   obtain⟨o2,ak⟩:∃ u,((a0.setIfInBounds (j*3) (F I x.Kind)).setIfInBounds (j*3+1) (F I x.gN))[j*3+2]?=H u:=⟨_,MW (by simp only[MQ];omega)⟩
   have HX:=fE a3;have a2:lS x<=1099511627776:=LO (Ab lS a3) hn;clear a3 hx;go_wp2_with(fail);refine(zsG (x:=x) a9 aa ab a2).mono ?_;rintro e w1 ⟨rfl,hF,ae,d1,rfl⟩;go_wp2;go_roundw
   case rel=>
    rw[tD] at hF;obtain⟨a8,h1,h2,h3,h4⟩:=DQ (T:=iz) hr.out hN.out hL.out a1.out hlt HX.out hF (by rw[<-tD];exact fF.of _ _ _);exact⟨j+1,_,os++ae,d1,a8,by omega,by go_num,tD _ _ _ _,h1,h2,h3,h4⟩
   case measure=>exact gL
  ·have ac:j=xs.length:=by omega
   subst ac;go_wp2;go_ret;exact Dz hr.out hN.out hL.out a1.out (Lz _) (by omega)
theorem zq3 {ys:Q gu} {u:LA} (hx:(iz.sl 159).R w w.heap.size [v] xs)(hy:(iz.sl 159).R w w.heap.size [u] ys) :
  LR prog 123 #[v,u] w fun e w'=>e=.returned (X (decide (xs=ys)))/\fF w w':=by
 obtain⟨A,c,rfl,h1,h2⟩:=jV hx;obtain⟨A',c',rfl,k1,k2⟩:=jV hy;by_cases hl:xs.length=ys.length
 ·have a7:((xs.length:Int) != (ys.length:Int))=U:=by simp[hl]
  have HL:=fE hl;clear hl;go_enter func123,ntmps123;go_wp2_with(fail);go_loopw [5] (fun i wr=>∃ k:Nat,k<=xs.length/\i=F I k/\Hid (fF w wr)/\Hid (xs.take k=ys.take k)) (fun i _=>xs.length-(Ml i).toNat)
  case atStart=>exact⟨0,Lv _,rfl,fF.refl _,fE (by simp)⟩
  case round=>
   obtain⟨k,hk,rfl,hG,HT⟩:=hrel;obtain⟨os,d,rfl⟩:=hG.out;clear hG;by_cases hlt:k<xs.length
   ·have a2:k<ys.length:=by rw[<-HL.out];exact hlt
    obtain⟨g,a1,x,rfl,af,a3,ag,ah,ai,a9,aa,ab⟩:=mj hx hlt;obtain⟨g',a0,y,rfl,a6,a4,aj,ak,al,ac,ad,ae⟩:=mj hy a2;have HX:=fE a3;have HY:=fE a4;clear a3 a4 hx hy;by_cases hxy:x=y
    ·subst hxy
     go_wp2_with(fail)
     go_region_held3 (fun w'=>Lg w' ⟨g,a1+k*3,V⟩=H (F I x.Kind)/\Lg w' ⟨g,a1+k*3+1,V⟩=H (F I x.gN)/\Lg w' ⟨g,a1+k*3+2,V⟩=H (G x.Name)/\Lg w' ⟨g',a0+k*3,V⟩=H (F I x.Kind)/\Lg w' ⟨g',a0+k*3+1,V⟩=H (F I x.gN)/\Lg w' ⟨g',a0+k*3+2,V⟩=H (G x.Name)) ((repeat' apply Ls) <;> (first | ((repeat (first | assumption | with_reducible refine zC ?_ _ _ | with_reducible refine zo ?_ _ | with_reducible refine zb ?_));done) | (simp[go_sem];done))) (first
      | (go_at_call 199;refine(zpc (x:=x) (y:=x)).mono ?_;rintro e w1 ⟨rfl,a8,d1,rfl⟩))
     go_wp2;go_roundw;exact⟨k+1,by omega,by go_num,fE gG,fE (by rw[lJ HX.out,lJ HY.out,HT.out])⟩;exact gL
    ·have a5:=fE (show decide (x=y)=U from by simp[hxy])
     go_wp2_with(fail)
     go_region_held3 (fun w'=>Lg w' ⟨g,a1+k*3,V⟩=H (F I x.Kind)/\Lg w' ⟨g,a1+k*3+1,V⟩=H (F I x.gN)/\Lg w' ⟨g,a1+k*3+2,V⟩=H (G x.Name)/\Lg w' ⟨g',a0+k*3,V⟩=H (F I y.Kind)/\Lg w' ⟨g',a0+k*3+1,V⟩=H (F I y.gN)/\Lg w' ⟨g',a0+k*3+2,V⟩=H (G y.Name)) ((repeat' apply Ls) <;> (first | ((repeat (first | assumption | with_reducible refine zC ?_ _ _ | with_reducible refine zo ?_ _ | with_reducible refine zb ?_));done) | (simp[go_sem];done))) (first
      | (go_at_call 199;refine(zpc (x:=x) (y:=y)).mono ?_;rw[a5.out];rintro e w1 ⟨rfl,a8,d1,rfl⟩))
     go_wp2;go_ret;refine⟨zy ?_,gG⟩;symm;simp only[Me];rintro rfl;exact hxy (M0 (HX.out.symm.trans HY.out))
   ·go_wp2
    go_ret;refine⟨zy ?_,gG⟩;have:k=xs.length:=by omega
    exact lG
 ·have a7:((xs.length:Int) != (ys.length:Int))=M:=by simp;omega
  go_enter func123,ntmps123;exact lH
theorem zoC {k:Int} {S:Q Nat} (hO:(iz.sl 159).O w [J A n c] xs S)(hS:S.Nodup)(h0:0<k)(h1:k+uh xs<=1099511627776) :
  LR prog 57 #[J A n c,F I k] w fun e w'=>e=.returned (F I (k+uh xs))/\(iz.sl 159).O w' [J A n c] (AG xs k) S/\fJ S w w':=by
 obtain⟨_,_,hx,h2,h3⟩:=jV (Ty.read _ hO);injection hx with hA hn hc
 subst hA hn hc;clear h3;unfold uh at h1 |-;go_enter func57,ntmps57;go_wp2_with(fail);go_loopw [1,5] (fun a i wr=>∃(j:Nat),j<=xs.length/\a=F I (k+j*3)/\i=F I j/\Hid ((iz.sl 159).O wr [J A xs.length c] (m8 tF (fun _=>3) xs k j) S)/\Hid (fJ S w wr)) (fun _ i _=>xs.length-(Ml i).toNat)
 case atStart=>exact⟨0,Lv _,by simp,rfl,fE (by rw[tr];exact hO),fJ.refl _ _⟩
 case round=>
  obtain⟨j,hj,rfl,rfl,ho,hs⟩:=hrel;by_cases hlt:j<xs.length
  ·have a3:xs[j]?=H xs[j]:=Lo hlt
   obtain⟨g,ec,Sc,rfl,ad,af,ae,a9,a4,a2,a0,a1⟩:=OZ ho.out hS (tv a3 k);generalize hxe:xs[j]=x at a3 a4;clear hxe;obtain⟨rfl,rfl,_,_,_⟩:=Ky a4;have a6:=a0 0 _ rfl;have a7:=a0 1 _ rfl;have a8:=a0 2 _ rfl;simp only[Nat.add_zero,show iz.size=3 from rfl] at a6 a7 a8;have aa:=a2 (j*3);have ab:=a2 (j*3+1);have ac:=a2 (j*3+2);have HX:=fE a3;have HS:=fE a1;clear a0 a1 a2 a3 hO a4;go_wp2_with(first | (go_at_call 55;refine(pt _ (by omega) (by omega) _).mono ?_;rintro e w1 ⟨rfl,os,d,rfl⟩));go_roundw
   case rel=>
    have h:=HS.out [F I (k+j*3),F I (k+j*3+1),G (lr (k+j*3+1+1))] (tF x (k+j*3)) (De (x:=tF x (k+j*3)) (show fV (k+j*3) from⟨by omega,by omega⟩) (show fV (k+j*3+1) from⟨by omega,by omega⟩) (uD _ (by omega) (by omega)));have e:=tw (mk:=tF) (cnt:=fun _=>3) HX.out k;rw[p9 3 (by omega),Ni] at e;rw[show tF x (k+j*3)=tF x (k+(j:Int)*((3:Nat):Int)) from rfl,e] at h;exact⟨j+1,by omega,by go_num,by go_num,fE (Ty.jl _ h.1 (fF.of _ _ _)),fE ((hs.out.trans h.2).trans ((fF.of _ _ _).only _))⟩
   case measure=>exact gL
  ·go_wp2
   have:j=xs.length:=by omega
   subst this;have a5:=ho.out;rw[tu] at a5;go_ret;exact⟨rfl,a5,hs.out⟩
def rowAt:Q jc->Int->Nat->Int->Int
 | [],_,_,f=>f
 | r::rs,off,k,f=>rowAt rs off (k+1) (if r.Offset<=off then (k:Int) else f)
end Go.Proofs.YtiihkapmggfjkaaGreat
