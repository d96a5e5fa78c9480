/-
  PART.
-/
import Derived.Test.YthgbglbaemelhaaGreatM1LawThreadsApart
import Derived.Deep.DeepMust
import Derived.Laws.Bits128
set_option linter.unusedVariables false
set_option linter.unusedSimpArgs false
set_option maxRecDepth 100000
set_option maxHeartbeats 8000000
namespace Go.Proofs.YthgbglbaemelhaaGreat
open Value renaming slice->G,int->J,bool->H,string->V
open IntKind renaming i64->Z,wrap->Rg
open Option renaming none->C,some->D
open Obj renaming cells->F
open Bool renaming false->I,true->M
open Go renaming World->U,results->Rv,Calls->RD,Addr->RJ,TypeId->R5
open World renaming cell?->Rb,frozen?->Rx
open _root_.Int renaming toNat_natCast->Ry
open RowKit renaming intOf->RS,wrap64->SN
open _root_.Array renaming length_toList->Sk
open UInt8 renaming ofNat->Tr
open Tryz
open Go.RowKit
variable {B a e f g i j k m n:Nat}{L:Q UInt8}{W w:U}{b q:Value}{p:Q fw}{s:N}{x:fw}
def nI (k:Int):Bool:=decide (k=0) || (decide (k=3) || decide (k=5))
def kU (x:fw):Int:=if nI x.li=M then 1 else if x.li=7 then -1 else 0
def zL (p:Q fw)(i:Nat):Int:=((p.take i).map kU).sum
theorem sY (h:p[i]?=D x):zL p (i+1)=zL p i+kU x:=by
 obtain⟨h1,rfl⟩:=Rd.1 h;unfold zL;rw[List.take_succ_eq_append_getElem h1,Un,List.sum_append];simp
theorem wZ (x:fw):(nI x.li=M/\kU x=1)∨(nI x.li=I/\x.li=7/\kU x = -1)∨(nI x.li=I/\x.li≠7/\kU x=0):=by
 unfold kU;cases h:nI x.li with
 | true=>exact .inl ⟨rfl,rfl⟩
 | false=>
  by_cases h7:x.li=7
  ·exact .inr (.inl ⟨rfl,h7,by simp[h7]⟩)
  ·exact .inr (.inr ⟨rfl,h7,by simp[h7]⟩)
def rF:Q fw->Int->Nat->Int
 | [],_,_=>-1
 | x::r,o,i=>if o+kU x=0 then (i:Int) else rF r (o+kU x) (i+1)
def iP (p:Q fw)(k:Int):Int:=if k<0 then -1 else match p[k.toNat]? with
 | none=>-1
 | some x=>if nI x.li=M then rF (p.drop k.toNat) 0 k.toNat else -1
theorem xZ (h:p[i]?=D x)(o:Int):rF (p.drop i) o i=if o+kU x=0 then (i:Int) else rF (p.drop (i+1)) (o+kU x) (i+1):=by
 obtain⟨h1,rfl⟩:=Rd.1 h;rw[Rw h1];rfl
structure gz (p:Q fw)(k e:Nat):Prop where
 op:∃ x,p[k]?=D x/\nI x.li=M
 lt:k<e
 len:e<p.length
 eq:zL p (e+1)=zL p k
 up:∀ i,k<i->i<=e->zL p k<zL p i
theorem EU {p:Q fw}{k:Nat}:∀(m i:Nat),p.length-i=m->k<=i->(∀ j,k<j->j<=i->zL p k<zL p j)->(i=k->∃ x,p[k]?=D x/\nI x.li=M)->
  (rF (p.drop i) (zL p i-zL p k) i = -1/\∀ j,i<=j->j<p.length->zL p (j+1)≠zL p k)∨∃ e:Nat,rF (p.drop i) (zL p i-zL p k) i=(e:Int)/\i<=e/\e<p.length/\zL p (e+1)=zL p k/\∀ j,k<j->j<=e->zL p k<zL p j
 | 0,i,hm,hk,hu,h0=>by
  rw[Tw K9];exact .inl ⟨rfl,fun j h1 h2=>K9⟩
 | m+1,i,hm,hk,hu,h0=>by
  have hi:i<p.length:=K9;have hx:p[i]?=D p[i]:=Rn hi;have hs:=sY hx;rw[xZ hx,show zL p i-zL p k+kU p[i]=zL p (i+1)-zL p k from K9];by_cases he:zL p (i+1)-zL p k=0
  ·rw[Rs he]
   exact .inr ⟨i,rfl,Ru _,hi,K9,hu⟩
  ·rw[Ro he]
   have a1:zL p k<zL p (i+1):=by
    rcases UY hk with h | h
    ·obtain⟨x,a0,ho⟩:=h0 h.symm
     subst h;rw[hx] at a0;injection a0 with a0
     rcases wZ p[k] with⟨_,h2⟩ | ⟨h2,_⟩ | ⟨h2,_⟩
     ·omega
     ·rw[a0,ho] at h2;cases h2
     ·rw[a0,ho] at h2;cases h2
    ·have h1:=hu i h (Ru _)
     rcases wZ p[i] with⟨_,h2⟩ | ⟨_,_,h2⟩ | ⟨_,_,h2⟩ <;> omega
   rcases EU (p:=p) (k:=k) m (i+1) K9 K9 (fun j h1 h2=>by
    by_cases hj:j=i+1
    ·subst hj;exact a1
    ·exact hu j h1 K9) (fun h=>K9) with⟨g1,g2⟩ | ⟨e,g1,g2,g3,g4,g5⟩
   ·exact .inl ⟨g1,fun j h1 h2=>by
     by_cases hj:j=i
     ·subst hj;omega
     ·exact g2 j K9 h2⟩
   ·exact .inr ⟨e,g1,K9,g3,g4,g5⟩
theorem wY (p:Q fw)(k:Nat):(iP p k = -1/\∀ e,¬ gz p k e)∨∃ e:Nat,iP p k=(e:Int)/\gz p k e:=by
 unfold iP;rw[Ro K9,Ry];cases hx:p[k]? with
 | none=>exact .inl ⟨rfl,fun e h=>by obtain⟨x,h1,_⟩:=h.op;rw[hx] at h1;cases h1⟩
 | some x=>
  cases ho:nI x.li with
  | false=>exact .inl ⟨by simp[ho],fun e h=>by obtain⟨y,h1,h2⟩:=h.op;rw[hx] at h1;injection h1 with h1;rw[<-h1,ho] at h2;cases h2⟩
  | true=>
   simp only[ho,TI];have a0:=(Rd.1 hx).1;rcases EU (p:=p) (k:=k) _ k rfl (Ru _) (fun j h1 h2=>K9) (fun _=>⟨x,hx,ho⟩) with⟨g1,g2⟩ | ⟨e,g1,g2,g3,g4,g5⟩
   ·rw[Int.sub_self] at g1
    exact .inl ⟨g1,fun e h=>g2 e (by have:=h.lt;omega) h.len h.eq⟩
   ·rw[Int.sub_self] at g1
    refine .inr ⟨e,g1,⟨x,hx,ho⟩,?_,g3,g4,g5⟩;rcases UY g2 with h | h
    ·subst h
     have hs:=sY hx;rcases wZ x with⟨_,h2⟩ | ⟨h2,_⟩ | ⟨h2,_⟩
     ·omega
     ·rw[ho] at h2;cases h2
     ·rw[ho] at h2;cases h2
    ·exact h
theorem Mb (h:iP p k=(e:Int)):gz p k e:=by
 rcases wY p k with⟨h1,_⟩ | ⟨e',h1,h2⟩
 ·omega
 ·have:e'=e:=K9
  subst this;exact h2
theorem gz.WD {e':Nat} (h:gz p k e)(h':gz p k e'):e=e':=by
 rcases UF e e' with hl | hl | hl
 ·have:=h'.up (e+1) (by have:=h.lt;omega) K9;have:=h.eq;omega
 ·exact hl
 ·have:=h.up (e'+1) (by have:=h'.lt;omega) K9;have:=h'.eq;omega
theorem gz.iV (h:gz p k e):iP p k=(e:Int):=by
 rcases wY p k with⟨_,h2⟩ | ⟨e',h1,h2⟩
 ·exact absurd h (h2 e)
 ·rw[h1,h.WD h2]
theorem Gs {k:Int} (h:k<0):iP p k = -1:=by unfold iP;rw[Rs h]
theorem wB (p:Q fw)(k:Int):iP p k = -1∨∃ a e:Nat,k=(a:Int)/\iP p k=(e:Int)/\gz p a e:=by
 by_cases hk:k<0
 ·exact .inl (Gs hk)
 ·obtain⟨a,rfl⟩:∃ a:Nat,k=(a:Int):=⟨k.toNat,K9⟩
  rcases wY p a with⟨h,_⟩ | ⟨e,h1,h2⟩
  ·exact .inl h
  ·exact .inr ⟨a,e,rfl,h1,h2⟩
theorem Jz {p:Q fw}{v:Int}:∀(m i j:Nat),j-i=m->i<=j->j<=p.length->v<zL p i->zL p j<=v->∃ e,i<=e/\e<j/\zL p (e+1)=v/\∀ q,i<=q->q<=e->v<zL p q
 | 0,i,j,hm,hij,hl,h1,h2=>by
  have:i=j:=by omega
  subst this;omega
 | m+1,i,j,hm,hij,hl,h1,h2=>by
  have hi:i<p.length:=by omega
  have hs:=sY (Rn hi);by_cases he:zL p (i+1)=v
  ·exact⟨i,Ru _,by omega,he,fun q a b=>by
    have:q=i:=by omega
    subst this;exact h1⟩
  ·have:v<zL p (i+1):=by rcases wZ p[i] with⟨_,h⟩ | ⟨_,_,h⟩ | ⟨_,_,h⟩ <;> omega
   obtain⟨e,g1,g2,g3,g4⟩:=Jz m (i+1) j (by omega) (by omega) hl this h2
   exact⟨e,by omega,g2,g3,fun q a b=>by
    by_cases hq:q=i
    ·subst hq;exact h1
    ·exact g4 q (by omega) b⟩
theorem gz.inner (h:gz p k e)(h1:k<i)(h2:i<e)(hx:p[i]?=D x)(ho:nI x.li=M):∃ e',gz p i e'/\i<e'/\e'<e:=by
 have hl:=h.len;have hs:=sY hx;have hd:kU x=1:=by unfold kU;rw[Rs ho]
 have a0:=h.up i h1 (by omega);obtain⟨e',g1,g2,g3,g4⟩:=Jz (p:=p) (v:=zL p i) _ (i+1) (e+1) rfl (by omega) (by omega) (by omega) (by rw[h.eq];omega)
 have:e'≠e:=by
  intro hh;subst hh;have:=h.eq;omega
 exact⟨e',⟨⟨x,hx,ho⟩,by omega,by omega,g3,fun q a b=>g4 q (by omega) b⟩,by omega,by omega⟩
theorem gz.last (h:gz p k e):∃ x,p[e]?=D x/\x.li=7:=by
 have hl:=h.len;have hx:p[e]?=D p[e]:=Rn h.len;have hs:=sY hx;have h1:=h.up e h.lt (Ru _);have h2:=h.eq;refine⟨_,hx,?_⟩;rcases wZ p[e] with⟨_,h⟩ | ⟨_,h,_⟩ | ⟨_,_,h⟩
 ·omega
 ·exact h
 ·omega
theorem gz.same (h:gz p i e)(h':gz p j e):i=j:=by
 rcases UF i j with hl | hl | hl
 ·obtain⟨x,hx,ho⟩:=h'.op
  obtain⟨e',g1,_,g3⟩:=h.inner hl h'.lt hx ho;have:=g1.WD h';omega
 ·exact hl
 ·obtain⟨x,hx,ho⟩:=h.op
  obtain⟨e',g1,_,g3⟩:=h'.inner hl h.lt hx ho;have:=g1.WD h;omega
def oY (p:Q fw):Nat->Nat->Int->Int
 | 0,_,_=>-1
 | n+1,i,e=>if (i:Int)<e then (match p[i]? with
   | none=>-1
   | some x=>if x.li=3∨x.li=5 then oY p n ((iP p i).toNat+1) e else if x.li=4 then (i:Int) else oY p n (i+1) e) else -1
def kh (p:Q fw)(k:Int):Int:=if iP p k<0 then -1 else match p[k.toNat]? with
 | none=>-1
 | some x=>if x.li=3 then oY p p.length (k.toNat+1) (iP p k) else -1
theorem CQ (h:gz p k e):∀(n i:Nat),k<i->i<=e->e-i<n->oY p n i (e:Int)=if (i:Int)<(e:Int) then (match p[i]? with
   | none=>-1
   | some x=>if x.li=3∨x.li=5 then oY p (n-1) ((iP p i).toNat+1) e else if x.li=4 then (i:Int) else oY p (n-1) (i+1) e) else -1
 | 0,_,_,_,hn=>K9
 | n+1,i,h1,h2,hn=>rfl
structure ja (p:Q fw)(k j:Nat):Prop where
 iff:∃ x,p[k]?=D x/\x.li=3
 lt:k<j
 BM:∃ x,p[j]?=D x/\x.li=4
 iX:∃ e,gz p k e/\j<e
 out:∀ i x,k<i->i<j->p[i]?=D x->nI x.li=M->x.li≠0->∃ e,gz p i e/\e<j
theorem KW (h:gz p k e)(hk:∃ x,p[k]?=D x/\x.li=3):∀(m n i:Nat),e-i=m->k<i->i<=e->e-i<n->(∀ q x,k<q->q<i->p[q]?=D x->nI x.li=M->x.li≠0->∃ b,gz p q b/\b<i)->
  oY p n i (e:Int) = -1∨∃ j:Nat,oY p n i (e:Int)=(j:Int)/\ja p k j:=by
 intro m;induction m using Nat.strongRecOn with
 | ind m ih=>
  intro n i hm h1 h2 hn ho;rw[CQ h n i h1 h2 hn];by_cases hi:(i:Int)<(e:Int)
  ·rw[Rs hi]
   have a0:i<p.length:=by have:=h.len;omega
   have hx:p[i]?=D p[i]:=Rn a0;rw[hx];simp only;by_cases hki:p[i].li=3∨p[i].li=5
   ·rw[Rs hki]
    have a1:nI p[i].li=M:=by rcases hki with hk | hk <;> (rw[hk];decide)
    obtain⟨e',g1,g2,g3⟩:=h.inner h1 K9 hx a1;rw[g1.iV,Ry];refine ih (e-(e'+1)) K9 _ _ rfl K9 K9 K9 (fun q x a b c d z=>?_);rcases UF q i with hq | hq | hq
    ·obtain⟨b',w1,w2⟩:=ho q x a hq c d z
     exact⟨b',w1,K9⟩
    ·subst hq
     exact⟨e',g1,K9⟩
    ·by_cases hqe:q=e'
     ·subst hqe
      obtain⟨y,hy,h7⟩:=g1.last;rw[c] at hy;injection hy with hy
      rw[hy,h7] at d;cases d
     ·obtain⟨b',w1,w2,w3⟩:=g1.inner hq K9 c d
      exact⟨b',w1,K9⟩
   ·rw[Ro hki]
    by_cases h4:p[i].li=4
    ·rw[Rs h4]
     exact .inr ⟨i,rfl,hk,h1,⟨_,hx,h4⟩,⟨e,h,K9⟩,ho⟩
    ·rw[Ro h4]
     refine ih (e-(i+1)) K9 _ _ rfl K9 K9 K9 (fun q x a b c d z=>?_);by_cases hq:q=i
     ·subst hq
      rw[hx] at c;injection c with c
      subst c;exfalso;unfold nI at d;simp only[UQ,RC] at d;omega
     ·obtain⟨b',w1,w2⟩:=ho q x a K9 c d z
      exact⟨b',w1,K9⟩
  ·rw[Ro hi]
   exact .inl rfl
theorem El (p:Q fw)(k:Nat):kh p k = -1∨∃ j:Nat,kh p k=(j:Int)/\ja p k j:=by
 unfold kh;rcases wY p k with⟨h,_⟩ | ⟨e,h1,h2⟩
 ·rw[h];exact .inl rfl
 ·rw[h1,Ro K9,Ry]
  obtain⟨x,hx,ho⟩:=h2.op;rw[hx];simp only;by_cases h3:x.li=3
  ·rw[Rs h3]
   have:=h2.len;have:=h2.lt;exact KW h2 ⟨x,hx,h3⟩ _ _ _ rfl K9 K9 K9 (fun q x a b=>K9)
  ·rw[Ro h3]
   exact .inl rfl
theorem ja.same (h:ja p i k)(h':ja p j k):i=j:=by
 rcases UF i j with hl | hl | hl
 ·obtain⟨x,hx,h3⟩:=h'.iff
  obtain⟨e,g1,g2⟩:=h.out j x hl h'.lt hx (by rw[h3];decide) (by rw[h3];decide);obtain⟨e',w1,w2⟩:=h'.iX;have:=g1.WD w1;omega
 ·exact hl
 ·obtain⟨x,hx,h3⟩:=h.iff
  obtain⟨e,g1,g2⟩:=h'.out i x hl h.lt hx (by rw[h3];decide) (by rw[h3];decide);obtain⟨e',w1,w2⟩:=h.iX;have:=g1.WD w1;omega
def qW (n:Nat):Q UInt8:=if n<128 then [Tr n] else Tr (n % 128+128)::qW (n / 128)
termination_by n
decreasing_by omega
theorem DE (h:n<128):qW n = [Tr n]:=by rw[qW,Rs h]
theorem IA (h:128<=n):qW n=Tr (n % 128+128)::qW (n / 128):=by rw[qW,Ro K9]
def jy (n:Int):N:=if fP n 0 1099511627775 then ⟨(qW n.toNat).toArray⟩ else ⟨#[]⟩
theorem Cg (k:IntKind)(x y:Int):bits .or k x y=bits .or k y x:=by simp only[bits,BitVec.or_comm]
theorem AD (n:Int)(h0:0<=n)(h1:n<2 ^ 62):Rg Z n=n:=SG n ⟨K9,K9⟩
theorem Qa (m:Nat):bits .or Z ((m:Int) % 128) 128=(m:Int) % 128+128:=by
 rw[Cg,bits_join Z 62 qo AD 7 128 _ qo qo qo K9 K9 K9];omega
theorem Dc (n:Nat)(h:n<256):nj.R w B [J .u8 (n:Int)] (Tr n):=G5 (x:=(n:Int)) K9 K9
theorem Pf (m:Nat):nj.R w B [J .u8 ((m:Int) % 128+128)] (Tr (m % 128+128)):=Dc (m % 128+128) K9
theorem zfH (n:Int)(w:U):RD prog 117 #[J Z n] w fun e w'=>e=.returned (V (jy n))/\fu w w':=by
 cases hb:fP n 0 1099511627775
 ·have HS:=fh (show jy n=⟨#[]⟩ from by simp[jy,hb])
  have HB:=fh hb;clear hb;go_enter func117,ntmps117;go_wp2_with(go_at_call 43;(with_reducible refine(gW _ _ _ _).mono ?_);rw[HB.out];rintro e w1 ⟨rfl,rfl⟩);go_ret;exact⟨mP HS.out.symm,gG⟩
 ·obtain⟨a2,a4⟩:=zu.1 hb
  obtain⟨n,rfl⟩:=RE a2;have HS:=fh (show jy n=⟨(qW n).toArray⟩ from by simp[jy,hb]);have HB:=fh hb;clear hb;go_enter func117,ntmps117;go_wp2_with(go_at_call 43;(with_reducible refine(gW _ _ _ _).mono ?_);rw[HB.out];rintro e w1 ⟨rfl,rfl⟩);go_loopw [0,3] (fun a b wr=>∃(m:Nat) (a0:Q UInt8) (A:X RJ) (c:Nat),a=J Z m/\b=G A a0.length c/\a0.length+m<=n/\Hid (a0++qW m=qW n)/\Hid (fu w wr)/\Hid (fU (nj.sl 5) w wr [G A a0.length c] a0)) (fun a _ _=>(RS a).toNat)
  case atStart=>exact⟨n,[],_,0,rfl,rfl,II,fh II,fh gG,fh (wj gG II)⟩
  case round=>
   obtain⟨m,a0,A,c,rfl,rfl,hm,HT,hG,hF⟩:=hrel;obtain⟨os,d,rfl⟩:=hG.out;clear hG;by_cases hlt:127<m
   ·have e1:=i64_and127 m
    have e2:=Qa m;have HN:=fh (IA (n:=m) K9);go_wp2_with(at_builtin;go_must (refine xS (L:=a0.length+1) rfl (.tmp 10) (.tmp 15) DH AI (W0:=w) (hF.out.fy gG).mW gG (W1:=w) (B:=0) (ec:=[J .u8 ((m:Int) % 128+128)]) (y:=Tr (m % 128+128)) (Pf m) rfl rfl rfl (by intro j u hu;simpa[go_sem] using hu) rfl K9 K9 ?_);intro A2 c2 a3 d2 a1);go_roundw;exact⟨m / 128,a0++[Tr (m % 128+128)],A2,c2,Ar,II,by simp;omega,fh (by rw[<-HT.out,HN.out];simp),fh gG,fh (by simpa using a1)⟩;exact gM
   ·have HN:=fh (DE (n:=m) K9)
    go_wp2_with(at_builtin;go_must (refine xS (L:=a0.length+1) rfl (.tmp 19) (.tmp 22) DH AI (W0:=w) (hF.out.fy gG).mW gG (W1:=w) (B:=0) (ec:=[J .u8 (m:Int)]) (y:=Tr m) (Dc m K9) rfl rfl rfl (by intro j u hu;simpa[go_sem] using hu) rfl K9 K9 ?_);intro A2 c2 a3 d2 a1;have kc:=Fk a1.read);go_ret;exact⟨mP (by rw[HS.out,<-HT.out,HN.out]),gG⟩
def pQ (L:Q UInt8)(a:Nat):Nat->Nat->Nat->Nat × Nat × Bool
 | 0,_,_=>(0,0,I)
 | f+1,k,n=>match L[a+k]? with
  | none=>(0,0,I)
  | some b=>if b.toNat<128 then (if (jy ((n+b.toNat % 128*128 ^ k:Nat):Int)).data.toList=(L.drop a).take (k+1) then (n+b.toNat % 128*128 ^ k,k+1,M) else (0,0,I)) else pQ L a f (k+1) (n+b.toNat % 128*128 ^ k)
theorem Cn {b:UInt8} (h:L[a+k]?=D b):pQ L a (f+1) k n=if b.toNat<128 then (if (jy ((n+b.toNat % 128*128 ^ k:Nat):Int)).data.toList=(L.drop a).take (k+1) then (n+b.toNat % 128*128 ^ k,k+1,M) else (0,0,I)) else pQ L a f (k+1) (n+b.toNat % 128*128 ^ k):=by
 rw[pQ,h]
theorem Xw (h:L[a+k]?=C):pQ L a (f+1) k n=(0,0,I):=by
 rw[pQ,h]
def iD (s:N)(a:Int):Nat × Nat × Bool:=if 0<=a then pQ s.data.toList a.toNat 6 0 0 else (0,0,I)
def I4 (p:Nat × Nat × Bool)(w:U)(e:Ending)(w':U):Prop:=e=.returned (.tuple #[J Z p.1,J Z p.2.1,H p.2.2])/\fu w w'
theorem xw {p q:Nat × Nat × Bool} (h:p=q){w w':U}(hG:fu w w'):I4 p w (.returned (.tuple #[J Z q.1,J Z q.2.1,H q.2.2])) w':=by
 subst h;exact⟨rfl,hG⟩
theorem GY (s:N)(a b:Nat):(s.extract a b).data.toList=(s.data.toList.drop a).take (b-a):=by
 rw[ByteArray.data_extract,Array.toList_extract]
theorem G7 {a:Int} (hb:fP a 0 ((s.size:Int)-1)=I):iD s a=(0,0,I):=by
 unfold iD;split
 ·rename_i h0
  obtain⟨n,rfl⟩:=RE h0
  have hn:s.data.toList[(n:Int).toNat+0]?=C:=by
   rw[SQ];have h1:s.data.toList.length=s.size:=by rw[Sk];rfl
   have:¬ (n:Int)<=s.size-1:=fun h=>by rw[oz K9 h] at hb;cases hb
   rw[h1,Ry];omega
  exact Xw hn
 ·rfl
theorem DI (j:Nat):(2:Int) ^ (7*j)=((128 ^ j:Nat):Int):=by
 rw[Int.pow_mul];norm_cast
theorem GV (b:UInt8):bits .and .u8 (b.toNat:Int) 127=(b.toNat:Int) % 128:=bits_mask .u8 8 qo wraps_u8 7 qo _ K9 (by have:=b.toNat_lt;omega)
theorem Qb (b:UInt8)(hj:j<6)(hm:m<128 ^ j):bits .or Z (m:Int) (SN ((b.toNat:Int) % 128*2 ^ (7*j)))=((m+b.toNat % 128*128 ^ j:Nat):Int)/\m+b.toNat % 128*128 ^ j<128 ^ (j+1)/\m+b.toNat % 128*128 ^ j<4398046511104:=by
 have hp:128 ^ (j+1)<=4398046511104:=by
  have h:=Us (show 0<128 from K9) (show j+1<=6 from K9);exact h
 have hb:b.toNat % 128<=127:=K9;have a0:b.toNat % 128*128 ^ j<=127*128 ^ j:=Tb _ hb;have hs:(128:Nat) ^ (j+1)=128*128 ^ j:=by rw[Nat.pow_succ,Vb]
 have e1:((b.toNat:Int) % 128*2 ^ (7*j))=((b.toNat % 128*128 ^ j:Nat):Int):=by
  rw[DI];push_cast;rfl
 have e2:SN ((b.toNat % 128*128 ^ j:Nat):Int)=((b.toNat % 128*128 ^ j:Nat):Int):=qC K9 K9;refine⟨?_,K9,K9⟩;rw[e1,e2,Cg,bits_join Z 62 qo AD (7*j) _ _ K9 (by rw[DI];norm_cast;exact Nat.mul_mod_left _ _) (by norm_cast;omega) K9 (by rw[DI];exact_mod_cast hm) (by norm_cast;omega)];push_cast;omega
theorem zdz (s:N)(a:Int)(w:U)(hs:s.size<=1099511627776)(ha:fE a):RD prog 108 #[V s,J Z a] w (I4 (iD s a) w):=by
 obtain⟨a5,a6⟩:=ha;by_cases hb1:0<=a
 case neg=>
  have HS:=fh (G7 (s:=s) (a:=a) (by simp[fP];omega));go_enter func108,ntmps108;go_wp2;go_ret3;exact xw HS.out gG
 by_cases hb2:a<=(s.size:Int)-1
 case neg=>
  have HS:=fh (G7 (s:=s) (a:=a) (by simp[fP];omega));go_enter func108,ntmps108;go_wp2_with(fail);go_loop [7,8] (fun x y=>x=J Z 0/\y=J Z 0) (fun _ _=>0)
  case atStart=>exact⟨rfl,rfl⟩
  case round=>
   obtain⟨rfl,rfl⟩:=hrel;go_wp2;go_ret3;exact xw HS.out gG
 ·skip
  obtain⟨a,rfl⟩:=RE hb1;have HS:=fh (show iD s a=pQ s.data.toList a 6 0 0 from by simp[iD]);go_enter func108,ntmps108;go_wp2_with(fail);go_loopw [7,8] (fun x y wr=>∃(m j:Nat),x=J Z m/\y=J Z j/\j<=6/\Hid (m<128 ^ j)/\m<4398046511104/\Hid (pQ s.data.toList a (6-j) j m=pQ s.data.toList a 6 0 0)/\Hid (fu w wr)) (fun _ y _=>6-(RS y).toNat)
  case atStart=>exact⟨0,0,rfl,rfl,K9,fh K9,K9,fh rfl,fh gG⟩
  case round=>
   obtain⟨m,j,rfl,rfl,hj,hm,a7,HT,hG⟩:=hrel;obtain⟨os,d,rfl⟩:=hG.out;clear hG;by_cases hj6:j<6
   ·obtain⟨f,hf⟩:∃ f,6-j=f+1:=⟨5-j,K9⟩
    have a0:=fh hf;have a1:=fh (show 6-(j+1)=f from K9);clear hf;by_cases hlt:a+j<s.size
    ·have HX:=fh (yh s (a+j) hlt)
     obtain⟨a8,a9⟩:0<=(s[a+j].toNat:Int)/\(s[a+j].toNat:Int)<=255:=by have:=s[a+j].toNat_lt;omega
     obtain⟨o1,o2,o3⟩:=Qb s[a+j] hj6 hm.out;obtain⟨v,hv⟩:∃ v,m+s[a+j].toNat % 128*128 ^ j=v:=⟨_,rfl⟩
     rw[hv] at o1 o2 o3;have HV:=fh hv;have O2:=fh o2;clear hv o2;have HD:=fh (Cn (f:=f) (n:=m) HX.out);by_cases hb127:¬ (s[a+j].toNat:Int)<128
     ·have e1:=GV s[a+j]
      go_wp2_with(fail);go_roundw;exact⟨v,j+1,rfl,Ar,K9,O2,K9,fh (by rw[<-HT.out,a0.out,a1.out,HD.out,Ro K9,HV.out]),fh gG⟩;exact gM
     ·have e1:=GV s[a+j]
      by_cases hq:jy v=s.extract a (a+j+1)
      ·have hQ:=fh (show iD s a=(v,j+1,M) from by
        rw[HS.out,<-HT.out,a0.out,HD.out,Rs K9,HV.out,Rs (by rw[hq,GY,show a+j+1-a=j+1 from K9])])
       have a3:((jy (v:Int)).toList == (s.extract a ((a:Int)+j+1).toNat).toList)=M:=by
        rw[lC,hq,show ((a:Int)+j+1).toNat=a+j+1 from K9];simp
       clear hq;go_wp2_with(fail);have w1:Rg Z ((a:Int)+j)=(a:Int)+j:=SG _ K9;have w2:Rg Z ((a:Int)+j+1)=(a:Int)+j+1:=SG _ K9;have w3:(0:Int)<=(a:Int)+j+1:=K9;have w4:(a:Int)+j+1<=s.size:=K9;have w5:(a:Int)<=(a:Int)+j+1:=K9;go_region_held3 (fun w'=>True) (trivial) (first | (go_at_call 117;refine(zfH _ _).mono ?_;rintro e w2 ⟨rfl,a4,d2,rfl⟩));go_wp2;go_ret3;exact xw (q:=(v,j+1,M)) hQ.out gG
      ·have hQ:=fh (show iD s a=(0,0,I) from by
        rw[HS.out,<-HT.out,a0.out,HD.out,Rs K9,HV.out,Ro];intro h;refine hq (U6 (Array.toList_inj.1 ?_))
        rw[h,GY,show a+j+1-a=j+1 from K9])
       have a3:((jy (v:Int)).toList == (s.extract a ((a:Int)+j+1).toNat).toList)=I:=by
        rw[lC,show ((a:Int)+j+1).toNat=a+j+1 from K9];simp[hq]
       clear hq;go_wp2_with(fail);have w1:Rg Z ((a:Int)+j)=(a:Int)+j:=SG _ K9;have w2:Rg Z ((a:Int)+j+1)=(a:Int)+j+1:=SG _ K9;have w3:(0:Int)<=(a:Int)+j+1:=K9;have w4:(a:Int)+j+1<=s.size:=K9;have w5:(a:Int)<=(a:Int)+j+1:=K9;go_region_held3 (fun w'=>True) (trivial) (first | (go_at_call 117;refine(zfH _ _).mono ?_;rintro e w2 ⟨rfl,a4,d2,rfl⟩));go_wp2;go_ret3;exact xw (q:=(0,0,I)) hQ.out gG
    ·have hQ:=fh (show iD s a=(0,0,I) from by
      rw[HS.out,<-HT.out,a0.out,Xw];rw[SQ,Sk]
      exact Nat.le_of_not_lt hlt)
     go_wp2_with(fail);go_ret3;exact xw (q:=(0,0,I)) hQ.out gG
   ·have a2:j=6:=K9
    subst a2;have hQ:=fh (show iD s a=(0,0,I) from by rw[HS.out,<-HT.out];rfl);go_wp2_with(fail);go_ret3;exact xw (q:=(0,0,I)) hQ.out gG
def iy (c:Int):Nat × Bool:=
 if c=0 then (4,M)
 else if c=1∨c=2∨c=3∨c=4∨c=10∨c=11 then (2,M)
 else if c=16 then (2,I)
 else if c=12∨c=13∨c=14∨c=15 then (1,I)
 else (0,I)
theorem AP (c:Int):iy c=(4,M)∨iy c=(2,M)∨iy c=(2,I)∨iy c=(1,I)∨iy c=(0,I):=by
 unfold iy;split
 ·simp
 ·split
  ·simp
  ·split
   ·simp
   ·split <;> simp
theorem rI (c:Int):(iy c).1<=4:=by
 rcases AP c with h | h | h | h | h <;> rw[h] <;> decide
def zS (c:Int):Int:=if fP c 0 17=M then ((iy c).1:Int)+1 else 0
def lL (s:N)(a:Nat):Nat:=(s.data.toList[a]?.map UInt8.toNat).getD 0
theorem yg (h:a<s.size):lL s a=s[a].toNat:=by
 unfold lL;rw[yh s a h];rfl
theorem Db (s:N)(a:Nat):lL s a<256:=by
 unfold lL;cases s.data.toList[a]? with
 | none=>simp
 | some b=>simpa using b.toNat_lt
def nG (s:N)(a:Nat):Nat->Nat
 | 0=>0
 | k+1=>nG s a k+lL s (a+k)*256 ^ k
theorem tw (s:N)(a:Nat):∀ k,nG s a k<256 ^ k
 | 0=>by simp[nG]
 | k+1=>by
  have h1:=tw s a k;have h2:=Db s (a+k);have h3:lL s (a+k)*256 ^ k<=255*256 ^ k:=Tb _ K9;have h4:(256:Nat) ^ (k+1)=256*256 ^ k:=by rw[Nat.pow_succ,Vb]
  simp only[nG];omega
def qU (w:Nat)(sg:Bool)(u:Nat):Int:=if sg=M/\2 ^ (8*w-1)<=u then (u:Int)-2 ^ (8*w) else u
structure tM where
 code:Int
 arg:Int
 n:Nat
 ok:Bool
def je (s:N)(a:Int):tM:=
 if 0<=a/\a<s.size/\lL s a.toNat<=17/\a.toNat+1+(iy (lL s a.toNat:Nat)).1<=s.size then
  ⟨(lL s a.toNat:Nat),qU (iy (lL s a.toNat:Nat)).1 (iy (lL s a.toNat:Nat)).2 (nG s (a.toNat+1) (iy (lL s a.toNat:Nat)).1),(iy (lL s a.toNat:Nat)).1+1,M⟩
 else ⟨0,0,0,I⟩
theorem xo {a:Int} (h:¬ (0<=a/\a<s.size/\lL s a.toNat<=17/\a.toNat+1+(iy (lL s a.toNat:Nat)).1<=s.size)):je s a=⟨0,0,0,I⟩:=Ro h
theorem CP {c w:Nat} {sg:Bool} (h1:a<s.size)(h2:lL s a=c)(h3:c<=17)(h4:iy (c:Int)=(w,sg))(h5:a+1+w<=s.size):je s (a:Int)=⟨c,qU w sg (nG s (a+1) w),w+1,M⟩:=by
 unfold je;rw[Ry,h2,h4,Rs ⟨K9,K9,h3,h5⟩]
theorem wv {a:Int} {r:tM} (h:je s a=r)(hk:r.ok=M):0<=a/\1<=r.n/\r.n<=5/\a+r.n<=s.size/\0<=r.code/\r.code<=17:=by
 subst h;unfold je at hk |-;split
 ·rename_i h
  have:=rI (lL s a.toNat:Nat);simp only;omega
 ·rename_i h
  rw[Ro h] at hk;cases hk
theorem E8 {a:Int} {r:tM} (h:je s a=r)(hk:r.ok=I):r=⟨0,0,0,I⟩:=by
 subst h;unfold je at hk |-;split
 ·rename_i h
  rw[Rs h] at hk;cases hk
 ·rfl
theorem Pe (w:Nat)(sg:Bool)(u:Nat)(hw:w<=4)(hu:u<256 ^ w) : -2147483648<=qU w sg u/\qU w sg u<=4294967295:=by
 unfold qU;have h4:w=0∨w=1∨w=2∨w=3∨w=4:=K9;split
 ·rename_i h
  obtain⟨_,h⟩:=h;rcases h4 with rfl | rfl | rfl | rfl | rfl <;> simp at h hu |- <;> omega
 ·rcases h4 with rfl | rfl | rfl | rfl | rfl <;> simp at hu |- <;> omega
theorem AG {a:Int} {r:tM} (h:je s a=r) : -2147483648<=r.arg/\r.arg<=4294967295:=by
 subst h;unfold je;split
 ·exact Pe _ _ _ (rI _) (tw _ _ _)
 ·simp
theorem G6 {a:Int} {r:tM} (h:je s a=r):(r.code=1∨r.code=2∨r.code=3∨r.code=4∨r.code=10∨r.code=11->-32768<=r.arg/\r.arg<=32767)/\(r.code=16->0<=r.arg/\r.arg<=65535)/\(r.code=12∨r.code=13∨r.code=14∨r.code=15->0<=r.arg/\r.arg<=255):=by
 subst h;unfold je;split
 ·simp only
  refine⟨fun hc=>?_,fun hc=>?_,fun hc=>?_⟩
  ·have e:iy (lL s a.toNat:Nat)=(2,M):=by
    unfold iy;rw[Ro (by omega),Rs hc]
   rw[e];have:=tw s (a.toNat+1) 2;simp only at this |-;unfold qU;split <;> simp at this |- <;> (try (rename_i hh;simp at hh)) <;> omega
  ·have e:iy (lL s a.toNat:Nat)=(2,I):=by
    unfold iy;rw[Ro (by omega),Ro (by omega),Rs hc]
   rw[e];have:=tw s (a.toNat+1) 2;simp[qU] at this |-;omega
  ·have e:iy (lL s a.toNat:Nat)=(1,I):=by
    unfold iy;rw[Ro (by omega),Ro (by omega),Ro (by omega),Rs hc]
   rw[e];have:=tw s (a.toNat+1) 1;simp[qU] at this |-;omega
 ·simp
def po (s:N):Nat->Nat->Bool
 | 0,a=>decide (s.size<=a)
 | f+1,a=>if a<s.size then (if (je s (a:Int)).ok=M then po s f (a+(je s (a:Int)).n) else I) else M
def kV (s:N)(a:Nat):Bool:=po s (s.size-a) a
theorem MJ (s:N):∀(f a:Nat),s.size-a<=f->po s f a=po s (s.size-a) a:=by
 intro f;induction f with
 | zero=>intro a h;rw[show s.size-a=0 from K9]
 | succ f ih=>
  intro a h;by_cases ha:a<s.size
  ·obtain⟨k,hk⟩:∃ k,s.size-a=k+1:=⟨s.size-a-1,K9⟩
   rw[hk];simp only[po,Rs ha];split
   ·rename_i hok
    have:=wv (s:=s) (a:=(a:Int)) rfl hok;rw[ih _ K9]
    have a1:∀ g,s.size-(a+(je s (a:Int)).n)<=g->g<=f->po s g (a+(je s (a:Int)).n)=po s (s.size-(a+(je s (a:Int)).n)) (a+(je s (a:Int)).n):=by
     intro g hg a0;by_cases e:g=f
     ·subst e;exact ih _ hg
     ·obtain⟨d,hd⟩:∃ d,g=(s.size-(a+(je s (a:Int)).n))+d:=⟨_,(Nat.add_sub_cancel' hg).symm⟩
      clear a0 e;subst hd;generalize (a+(je s (a:Int)).n)=b;clear ih h ha hk hok this hg
      suffices h:∀(m d b:Nat),s.size-b<=m->po s (m+d) b=po s m b by exact h _ d b (Ru _)
      intro m;induction m with
      | zero=>
       intro d b hb;cases d with
       | zero=>rfl
       | succ d=>simp only[RF,po];rw[Ro K9];simp;omega
      | succ m im=>
       intro d b hb;rw[Nat.add_right_comm];simp only[po];split
       ·split
        ·rename_i h1 h2
         have:=wv (s:=s) (a:=(b:Int)) rfl h2;exact im _ _ K9
        ·rfl
       ·rfl
    exact(a1 k K9 K9).symm
   ·rfl
  ·rw[show s.size-a=0 from K9]
   simp only[po,Ro ha];simp;omega
theorem E5 (h:s.size<=a):kV s a=M:=by
 unfold kV;rw[show s.size-a=0 from K9];simp[po,h]
theorem Gn (h:a<s.size)(hk:(je s (a:Int)).ok=I):kV s a=I:=by
 unfold kV;obtain⟨k,a0⟩:∃ k,s.size-a=k+1:=⟨s.size-a-1,K9⟩
 rw[a0];simp[po,h,hk]
theorem Co (h:a<s.size)(hk:(je s (a:Int)).ok=M):kV s a=kV s (a+(je s (a:Int)).n):=by
 have:=wv (s:=s) (a:=(a:Int)) rfl hk;unfold kV;obtain⟨k,a0⟩:∃ k,s.size-a=k+1:=⟨s.size-a-1,K9⟩
 rw[a0];simp only[po,Rs h,Rs hk];exact MJ _ _ _ K9
theorem zkN (c:Int)(w:U):RD prog 172 #[J Z c] w fun e w'=>e=.returned (.tuple #[J Z ((iy c).1:Int),H (iy c).2])/\w=w':=by
 go_enter func172,ntmps172;go_wp2
 all_goals
  go_ret2
  refine⟨?_,rfl⟩
  simp_all [iy]
theorem zd8 (c:Int)(w:U):RD prog 180 #[J Z c] w fun e w'=>e=.returned (.tuple #[J Z ((iy c).1:Int),H (iy c).2])/\w=w':=by
 go_enter func180,ntmps180;go_wp2
 all_goals
  go_ret2
  refine⟨?_,rfl⟩
  simp_all [iy]
theorem AA (c:Int):zS c=if fP c 0 17=M then ((iy c).1:Int)+1 else 0:=rfl
theorem zlC (c:Int)(w:U):RD prog 171 #[J Z c] w fun e w'=>e=.returned (J Z (zS c))/\w=w':=by
 have a0:=rI c;obtain⟨n,sg,hw⟩:∃ n sg,iy c=(n,sg):=⟨_,_,rfl⟩
 rw[hw] at a0;have HW:=fh hw;cases hb:fP c 0 17
 ·have HS:=fh (show zS c=0 from by simp[zS,hb])
  have HB:=fh hb;clear hb hw;go_enter func171,ntmps171;go_wp2_with(go_at_call 38;(with_reducible refine(lW _ _ _ _).mono ?_);rw[HB.out];rintro e w1 ⟨rfl,rfl⟩);go_ret;exact⟨nV HS.out.symm,rfl⟩
 ·have HS:=fh (show zS c=(n:Int)+1 from by simp[zS,hb,hw])
  have HB:=fh hb;clear hb hw;go_enter func171,ntmps171
  go_wp2_with(first
   | (go_at_call 38;(with_reducible refine(lW _ _ _ _).mono ?_);rw[HB.out];rintro e w1 ⟨rfl,rfl⟩)
   | (go_at_call 172;(with_reducible refine(zkN _ _).mono ?_);rw[HW.out];rintro e w1 ⟨rfl,rfl⟩))
  go_ret;exact⟨nV HS.out.symm,rfl⟩
theorem zga (c:Int)(w:U):RD prog 167 #[J Z c] w fun e w'=>e=.returned (J Z (zS c))/\w=w':=by
 have a0:=rI c;obtain⟨n,sg,hw⟩:∃ n sg,iy c=(n,sg):=⟨_,_,rfl⟩
 rw[hw] at a0;have HW:=fh hw;cases hb:fP c 0 17
 ·have HS:=fh (show zS c=0 from by simp[zS,hb])
  have HB:=fh hb;clear hb hw;go_enter func167,ntmps167;go_wp2_with(go_at_call 43;(with_reducible refine(gW _ _ _ _).mono ?_);rw[HB.out];rintro e w1 ⟨rfl,rfl⟩);go_ret;exact⟨nV HS.out.symm,rfl⟩
 ·have HS:=fh (show zS c=1+(n:Int) from by simp[zS,hb,hw,Int.add_comm])
  have HB:=fh hb;clear hb hw;go_enter func167,ntmps167
  go_wp2_with(first
   | (go_at_call 43;(with_reducible refine(gW _ _ _ _).mono ?_);rw[HB.out];rintro e w1 ⟨rfl,rfl⟩)
   | (go_at_call 180;(with_reducible refine(zd8 _ _).mono ?_);rw[HW.out];rintro e w1 ⟨rfl,rfl⟩))
  go_ret;exact⟨nV HS.out.symm,rfl⟩
theorem jT {a:Value} {e:R5} (h:W.heap[g]?=D (F #[a,b] e (0,0))) :
  Rb W ⟨g,0,C⟩=D a/\Rb W ⟨g,1,C⟩=D b/\Rx W ⟨g,0,C⟩=I/\Rx W ⟨g,1,C⟩=I/\g<W.heap.size:=by
 refine⟨?_,?_,by simp[Rx,h],by simp[Rx,h],(blt h)⟩
 all_goals
  rw[Sw W g _ _ _ (0,0) h]
  rfl
theorem rQ {p:Value} {e:R5} (h:W.heap[g]?=D (F #[p,q] e (0,0)))(a b:Value) :
  ((W.setCell ⟨g,0,C⟩ a).setCell ⟨g,1,C⟩ b).heap[g]?=D (F #[a,b] e (0,0))/\fx [g] W ((W.setCell ⟨g,0,C⟩ a).setCell ⟨g,1,C⟩ b):=
 ⟨zV (zV h 0 a) 1 b,((fx.refl _ _).setCell (p:=⟨g,0,C⟩) II a).setCell (p:=⟨g,1,C⟩) II b⟩
theorem zj {S Y:U} {o:Obj} (h:S.heap[k]?=D o)(hG:fu S Y):Y.heap[k]?=D o:=
 (hG.block (blt h)).trans h
theorem Js {a c d:Value} {e:R5} (h:W.heap[g]?=D (F #[a,b,c,d] e (0,0))) :
  Rb W ⟨g,0,C⟩=D a/\Rb W ⟨g,1,C⟩=D b/\Rb W ⟨g,2,C⟩=D c/\Rb W ⟨g,3,C⟩=D d/\(∀ j,Rx W ⟨g,j,C⟩=I):=by
 refine⟨?_,?_,?_,?_,fun j=>by simp[Rx,h]⟩
 all_goals
  rw[Sw W g _ _ _ (0,0) h]
  rfl
theorem wM {p r s:Value} {e:R5} (h:W.heap[g]?=D (F #[p,q,r,s] e (0,0)))(a b c d:Value) :
  ((((W.setCell ⟨g,0,C⟩ a).setCell ⟨g,1,C⟩ b).setCell ⟨g,2,C⟩ c).setCell ⟨g,3,C⟩ d).heap[g]?=D (F #[a,b,c,d] e (0,0))/\fx [g] W ((((W.setCell ⟨g,0,C⟩ a).setCell ⟨g,1,C⟩ b).setCell ⟨g,2,C⟩ c).setCell ⟨g,3,C⟩ d):=
 ⟨zV (zV (zV (zV h 0 a) 1 b) 2 c) 3 d,((((fx.refl _ _).setCell (p:=⟨g,0,C⟩) II a).setCell (p:=⟨g,1,C⟩) II b).setCell (p:=⟨g,2,C⟩) II c).setCell (p:=⟨g,3,C⟩) II d⟩
def BF (r:tM)(w:U)(e:Ending)(w':U):Prop:=e=.returned (.tuple #[.agg #[J Z r.code,J Z r.arg],J Z r.n,H r.ok])/\fu w w'
theorem pF {r q:tM} (h:r=q){w w':U}(hG:fu w w'):BF r w (.returned (.tuple #[.agg #[J Z q.code,J Z q.arg],J Z q.n,H q.ok])) w':=by
 subst h;exact⟨rfl,hG⟩
theorem Xu {g:Prop} (f:g:=by
  rw[Int.pow_mul,show (2:Int) ^ 8=((256:Nat):Int) from qo]
  exact(Int.natCast_pow 256 j).symm):g:=f
theorem Pk {b:Nat} (hb:b<256)(hj:j<4)(hm:m<256 ^ j):bits .or Z (m:Int) (SN ((b:Int)*2 ^ (8*j)))=((m+b*256 ^ j:Nat):Int):=by
 have hp:256 ^ (j+1)<=4294967296:=by
  have h:=Us (show 0<256 from K9) (show j+1<=4 from K9);exact h
 have a0:b*256 ^ j<=255*256 ^ j:=Tb _ K9;have hs:(256:Nat) ^ (j+1)=256*256 ^ j:=by rw[Nat.pow_succ,Vb]
 have e0:(2:Int) ^ (8*j)=((256 ^ j:Nat):Int):=by
  exact Xu
 have e1:((b:Int)*2 ^ (8*j))=((b*256 ^ j:Nat):Int):=by rw[e0,<-Int.natCast_mul]
 have e2:SN ((b*256 ^ j:Nat):Int)=((b*256 ^ j:Nat):Int):=qC K9 K9;rw[e1,e2,Cg,bits_join Z 62 qo AD (8*j) _ _ K9 (by rw[e0];norm_cast;exact Nat.mul_mod_left _ _) (by norm_cast;omega) K9 (by rw[e0];exact_mod_cast hm) (by norm_cast;omega)];omega
theorem yI {p:Value} {e:R5} (h:W.heap[g]?=D (F #[p,q] e (0,0)))(b:Value):(W.setCell ⟨g,1,C⟩ b).heap[g]?=D (F #[p,b] e (0,0))/\fx [g] W (W.setCell ⟨g,1,C⟩ b):=
 ⟨zV h 1 b,(fx.refl _ _).setCell (p:=⟨g,1,C⟩) (by simp) b⟩
theorem Xa {g:Prop} (f:g:=by
  have hun:nG s (a+1) j+s[a+1+j].toNat*256 ^ j=nG s (a+1) (j+1):=by rw[nG,hb]
  rw[hun] at hor
  have hul2:nG s (a+1) j<4294967296:=Ri hul (Us K9 (show j<=4 from K9))
  obtain⟨u,hu⟩:∃ u,nG s (a+1) j=u:=⟨_,rfl⟩
  obtain⟨v,hv⟩:∃ v,nG s (a+1) (j+1)=v:=⟨_,rfl⟩
  rw[hu] at hor x1 hul2
  rw[hv] at hor
  have HV:=fh hv
  clear hul hun hb hu hv
  have hjn2:(j:Int)<(n:Int):=K9
  have w1:Rg Z ((a:Int)+1)=(a:Int)+1:=SG _ K9
  have w2:Rg Z ((a:Int)+1+j)=(a:Int)+1+j:=SG _ K9
  have w3:(0:Int)<=(a:Int)+1+j:=K9
  have w4:(a:Int)+1+j<s.size:=K9
  go_wp2_with(fail)
  go_region
  go_wp2_with(fail)
  have h2:=yI hx.out (J Z v)
  go_roundw
  exact⟨j+1,Ar,K9,fh (by rw[HV.out];exact h2.1),fh ((h2.2.block g K9 II).trans hr.out),fh ((h2.2.fy hG.out (fun b hb=>by simp at hb;omega)).drew)⟩
  exact gM):g:=f
theorem uG {g:Prop} (f:g:=by
  go_enter func130,ntmps130
  go_wp2_with(first
   | (go_at_call 38;(with_reducible refine(lW _ _ _ _).mono ?_);rw[HB.out];rintro e w1 ⟨rfl,rfl⟩)
   | (go_at_call 171;(with_reducible refine(zlC _ _).mono ?_);rw[HZ.out];rintro e w1 ⟨rfl,rfl⟩))
  exact Rj (v:=.tuple #[.agg #[J Z 0,J Z 0],J Z 0,H I]) (by simp[Rv,results130,go_sem]) rfl (pF (q:=⟨0,0,0,I⟩) HD.out gG)):g:=f
theorem vD {g:Prop} (f:g:=by
  have h:=Re (w.alloc (F #[J Z 0,J Z 0] 142)) (F #[J Z (s[a].toNat:Int),J Z 0] 142)
  rw[Rz] at h
  exact h):g:=f
theorem zgo (s:N)(a:Int)(w:U)(hs:s.size<=1099511627776)(ha:fE a):RD prog 130 #[V s,J Z a] w (BF (je s a) w):=by
 obtain⟨ag,ah⟩:=ha;cases hb:fP a 0 ((s.size:Int)-1)
 ·have HD:=fh (xo (s:=s) (a:=a) (fun h=>by rw[oz K9 K9] at hb;cases hb))
  have HB:=fh hb;clear hb;go_enter func130,ntmps130;go_wp2_with(go_at_call 38;(with_reducible refine(lW _ _ _ _).mono ?_);rw[HB.out];rintro e w1 ⟨rfl,rfl⟩);exact Rj (v:=.tuple #[.agg #[J Z 0,J Z 0],J Z 0,H I]) (by simp[Rv,results130,go_sem]) rfl (pF (q:=⟨0,0,0,I⟩) HD.out gG)
 ·obtain⟨ac,ad⟩:=zu.1 hb
  have HB:=fh hb;clear hb;obtain⟨a,rfl⟩:=RE ac;have ab:a<s.size:=K9;have a1:=yg ab;obtain⟨c,hc⟩:∃ c,lL s a=c:=⟨_,rfl⟩
  have a8:c<256:=hc ▸ Db s a;rw[hc] at a1;have aj:0<=(s[a].toNat:Int)/\(s[a].toNat:Int)<=255:=K9;by_cases hc17:c<=17
  case neg=>
   have HD:=fh (xo (s:=s) (a:=(a:Int)) (fun h=>by rw[Ry,hc] at h;exact hc17 h.2.2.1));have HZ:=fh (show zS (s[a].toNat:Int)=0 from by rw[<-a1,AA,Ro (by simp[fP];omega)]);exact uG
  obtain⟨n,sg,hw⟩:∃ n sg,iy (c:Int)=(n,sg):=⟨_,_,rfl⟩
  have a3:=AP (c:Int);rw[hw] at a3;have ai:n<=4:=by have:=rI (c:Int);rw[hw] at this;exact this
  have HZ:=fh (show zS (s[a].toNat:Int)=(n:Int)+1 from by rw[<-a1,AA,Rs (oz K9 K9),hw]);have HW:=fh (show iy (s[a].toNat:Int)=(n,sg) from by rw[<-a1];exact hw);by_cases hfit:a+1+n<=s.size
  case neg=>
   have HD:=fh (xo (s:=s) (a:=(a:Int)) (fun h=>by rw[Ry,hc,hw] at h;exact hfit h.2.2.2));have a9:((n:Int)+1 == 0)=I:=by simp;omega
   have aa:decide ((s.size:Int)<(a:Int)+((n:Int)+1))=M:=Rp K9;clear hw hc a1;exact uG
  have HD:=fh (CP ab hc hc17 hw hfit);have a9:((n:Int)+1 == 0)=I:=by simp;omega
  have aa:decide ((s.size:Int)<(a:Int)+((n:Int)+1))=I:=Rk K9;clear hw hc;go_enter func130,ntmps130
  go_wp2_with(first
   | (go_at_call 38;(with_reducible refine(lW _ _ _ _).mono ?_);rw[HB.out];rintro e w1 ⟨rfl,rfl⟩)
   | (go_at_call 171;(with_reducible refine(zlC _ _).mono ?_);rw[HZ.out];rintro e w1 ⟨rfl,rfl⟩)
   | (go_at_call 172;(with_reducible refine(zkN _ _).mono ?_);rw[HW.out];rintro e w1 ⟨rfl,rfl⟩))
  have hG:fu w ((w.alloc (F #[J Z 0,J Z 0] 142)).alloc (F #[J Z (s[a].toNat:Int),J Z 0] 142)):=gG;have er:((w.alloc (F #[J Z 0,J Z 0] 142)).alloc (F #[J Z (s[a].toNat:Int),J Z 0] 142)).heap[w.heap.size]?=D (F #[J Z 0,J Z 0] 142 (0,0)):=zj (Re w _) gF
  have ex:((w.alloc (F #[J Z 0,J Z 0] 142)).alloc (F #[J Z (s[a].toNat:Int),J Z 0] 142)).heap[w.heap.size+1]?=D (F #[J Z (s[a].toNat:Int),J Z 0] 142 (0,0)):=by
   exact vD
  obtain⟨g,hg⟩:∃ g,w.heap.size=g:=⟨_,rfl⟩
  rw[hg] at er ex |-;generalize ((w.alloc _).alloc _)=Y at hG er ex |-;go_loopw [11] (fun x wr=>∃(j:Nat),x=J Z j/\j<=n/\Hid (wr.heap[g+1]?=D (F #[J Z (s[a].toNat:Int),J Z (nG s (a+1) j:Nat)] 142 (0,0)))/\Hid (wr.heap[g]?=D (F #[J Z 0,J Z 0] 142 (0,0)))/\Hid (fu w wr)) (fun x _=>n-(RS x).toNat)
  case atStart=>exact⟨0,rfl,K9,fh ex,fh er,fh hG⟩
  case round=>
   clear hG er ex;obtain⟨j,rfl,hj,hx,hr,hG⟩:=hrel;obtain⟨x0,x1,am,an,xl⟩:=jT hx.out;by_cases hjn:j<n
   ·have ae:a+1+j<s.size:=K9
    have hb:=yg ae;have ad:0<=(s[a+1+j].toNat:Int)/\(s[a+1+j].toNat:Int)<=255:=by have:=s[a+1+j].toNat_lt;omega
    have hul:=tw s (a+1) j;have hor:=Pk (m:=nG s (a+1) j) (j:=j) (b:=s[a+1+j].toNat) K9 K9 hul;exact Xa
   ·obtain rfl:j=n:=K9
    have hul:=tw s (a+1) j;obtain⟨u,hu⟩:∃ u,nG s (a+1) j=u:=⟨_,rfl⟩
    rw[hu] at hul x1 HD;have h0:=hr.out;have a7:=hx.out;rw[hu] at a7;clear hx hr;obtain⟨r0,r1,ak,al,rl⟩:=jT h0;have a0:(sg=M/\2 ^ (8*j-1)<=u)∨¬ (sg=M/\2 ^ (8*j-1)<=u):=Classical.em _;clear hu HB HZ HW hfit a9 aa;rcases a0 with a0 | a0
    ·have a4:je s (a:Int)=⟨(c:Int),(u:Int)-2 ^ (8*j),j+1,M⟩:=by rw[HD.out];unfold qU;rw[Rs a0]
     have HQ:=fh a4;obtain⟨rfl,a0⟩:=a0;clear a4 HD;simp only[Tp,UB,Ud,and_false,Tm,false_or] at a3;rcases a3 with rfl | rfl
     ·skip
      have a5:(2147483648:Int)<=(u:Int):=by simp at a0;omega
      have a6:(u:Int)<4294967296:=by simp at hul;omega
      have af:Rg Z ((u:Int)-4294967296)=(u:Int)-4294967296:=iw;clear hul a0;go_wp2_with(fail);go_region;go_wp2_with(fail);go_region;go_wp2_with(fail);have hk:=yI a7 (J Z ((u:Int)-4294967296));have h1:=(hk.2.block g K9 II).trans h0;have h2:=rQ h1 (J Z (s[a].toNat:Int)) (J Z ((u:Int)-4294967296));have hz:=jT h2.1;refine Rj (v:=.tuple #[.agg #[J Z (s[a].toNat:Int),J Z ((u:Int)-4294967296)],J Z ((4+1:Nat):Int),H M]) (by simp[Rv,results130,go_sem,hz,rl]) rfl ?_;exact pF (q:=⟨(s[a].toNat:Int),(u:Int)-4294967296,4+1,M⟩) (by rw[HQ.out,a1];try rfl) ((h2.2.fy (hk.2.fy hG.out (fun b hb=>by simp at hb;omega)) (fun b hb=>by simp at hb;omega)).trans gF)
     ·skip
      have a5:(32768:Int)<=(u:Int):=by simp at a0;omega
      have a6:(u:Int)<65536:=by simp at hul;omega
      have af:Rg Z ((u:Int)-65536)=(u:Int)-65536:=iw;clear hul a0;go_wp2_with(fail);go_region;go_wp2_with(fail);go_region;go_wp2_with(fail);have hk:=yI a7 (J Z ((u:Int)-65536));have h1:=(hk.2.block g K9 II).trans h0;have h2:=rQ h1 (J Z (s[a].toNat:Int)) (J Z ((u:Int)-65536));have hz:=jT h2.1;refine Rj (v:=.tuple #[.agg #[J Z (s[a].toNat:Int),J Z ((u:Int)-65536)],J Z ((2+1:Nat):Int),H M]) (by simp[Rv,results130,go_sem,hz,rl]) rfl ?_;exact pF (q:=⟨(s[a].toNat:Int),(u:Int)-65536,2+1,M⟩) (by rw[HQ.out,a1];try rfl) ((h2.2.fy (hk.2.fy hG.out (fun b hb=>by simp at hb;omega)) (fun b hb=>by simp at hb;omega)).trans gF)
    ·have a4:je s (a:Int)=⟨(c:Int),(u:Int),j+1,M⟩:=by rw[HD.out];unfold qU;rw[Ro a0]
     have HQ:=fh a4;clear a4 HD;cases sg with
     | false=>
      clear a0 a3 hul;go_wp2_with(fail);go_region;go_wp2_with(fail);have h2:=rQ h0 (J Z (s[a].toNat:Int)) (J Z ((u:Int)));have hz:=jT h2.1;refine Rj (v:=.tuple #[.agg #[J Z (s[a].toNat:Int),J Z ((u:Int))],J Z ((j+1:Nat):Int),H M]) (by simp[Rv,results130,go_sem,hz,rl]) rfl ?_;exact pF (q:=⟨(s[a].toNat:Int),(u:Int),j+1,M⟩) (by rw[HQ.out,a1];try rfl) ((h2.2.fy hG.out (fun b hb=>by simp at hb;omega)).trans gF)
     | true=>
      have a2:¬ 2 ^ (8*j-1)<=u:=fun h=>a0 ⟨rfl,h⟩;simp only[Tp,UB,Ud,and_false,Tm,false_or] at a3;rcases a3 with rfl | rfl
      ·have a5:decide ((2147483648:Int)<=(u:Int))=I:=Rk (by simp at a2;omega)
       clear a0 a2 hul;go_wp2_with(fail);go_region;go_wp2_with(fail);have h2:=rQ h0 (J Z (s[a].toNat:Int)) (J Z ((u:Int)));have hz:=jT h2.1;refine Rj (v:=.tuple #[.agg #[J Z (s[a].toNat:Int),J Z ((u:Int))],J Z ((4+1:Nat):Int),H M]) (by simp[Rv,results130,go_sem,hz,rl]) rfl ?_;exact pF (q:=⟨(s[a].toNat:Int),(u:Int),4+1,M⟩) (by rw[HQ.out,a1];try rfl) ((h2.2.fy hG.out (fun b hb=>by simp at hb;omega)).trans gF)
      ·have a5:decide ((32768:Int)<=(u:Int))=I:=Rk (by simp at a2;omega)
       clear a0 a2 hul;go_wp2_with(fail);go_region;go_wp2_with(fail);have h2:=rQ h0 (J Z (s[a].toNat:Int)) (J Z ((u:Int)));have hz:=jT h2.1;refine Rj (v:=.tuple #[.agg #[J Z (s[a].toNat:Int),J Z ((u:Int))],J Z ((2+1:Nat):Int),H M]) (by simp[Rv,results130,go_sem,hz,rl]) rfl ?_;exact pF (q:=⟨(s[a].toNat:Int),(u:Int),2+1,M⟩) (by rw[HQ.out,a1];try rfl) ((h2.2.fy hG.out (fun b hb=>by simp at hb;omega)).trans gF)
theorem MQ {b:Nat} (hb:b<256)(hj:j<4)(hm:m<256 ^ j):Rg Z ((m:Int)+SN ((b:Int)*2 ^ (8*j)))=((m+b*256 ^ j:Nat):Int):=by
 have hp:256 ^ (j+1)<=4294967296:=by
  have h:=Us (show 0<256 from K9) (show j+1<=4 from K9);exact h
 have a0:b*256 ^ j<=255*256 ^ j:=Tb _ K9;have hs:(256:Nat) ^ (j+1)=256*256 ^ j:=by rw[Nat.pow_succ,Vb]
 have e0:(2:Int) ^ (8*j)=((256 ^ j:Nat):Int):=by
  exact Xu
 have e1:((b:Int)*2 ^ (8*j))=((b*256 ^ j:Nat):Int):=by rw[e0,<-Int.natCast_mul]
 rw[e1,qC K9 K9,<-Int.natCast_add];exact iw
theorem uH {g:Prop} (f:g:=by
  go_enter func135,ntmps135
  go_wp2_with(first
   | (go_at_call 167;(with_reducible refine(zga _ _).mono ?_);rw[HZ.out];rintro e w1 ⟨rfl,rfl⟩)
   | (go_at_call 180;(with_reducible refine(zd8 _ _).mono ?_);rw[HW.out];rintro e w1 ⟨rfl,rfl⟩))
  exact Rj (v:=.tuple #[.agg #[J Z 0,J Z 0],J Z 0,H I]) (by simp[Rv,results135,go_sem]) rfl (pF (q:=⟨0,0,0,I⟩) HD.out gG)):g:=f
theorem vj {g:Prop} (f:g:=by
  go_enter func135,ntmps135
  go_wp2_with(fail)
  exact Rj (v:=.tuple #[.agg #[J Z 0,J Z 0],J Z 0,H I]) (by simp[Rv,results135,go_sem]) rfl (pF (q:=⟨0,0,0,I⟩) HD.out gG)):g:=f
theorem zh4 (s:N)(a:Int)(w:U)(hs:s.size<=1099511627776)(ha:fE a):RD prog 135 #[V s,J Z a] w (BF (je s a) w):=by
 obtain⟨ai,aj⟩:=ha;cases hb:fP a 0 ((s.size:Int)-1)
 ·have HD:=fh (xo (s:=s) (a:=a) (fun h=>by rw[oz K9 K9] at hb;cases hb))
  have a6:a<0∨(0<=a/\(s.size:Int)<=a):=by
   rcases Int.lt_or_le a 0 with h | h
   ·exact .inl h
   ·refine .inr ⟨h,?_⟩
    have:¬ a<=(s.size:Int)-1:=fun h2=>by rw[oz h h2] at hb;cases hb
    omega
  clear hb;rcases a6 with h | ⟨h,h'⟩
  ·have q0:decide (a<0)=M:=Rp h
   exact vj
  ·have q0:decide (a<0)=I:=Rk K9
   have q1:decide ((s.size:Int)<=a)=M:=Rp h';exact vj
 ·obtain⟨ad,ae⟩:=zu.1 hb
  clear hb;obtain⟨a,rfl⟩:=RE ad;have q0:decide ((a:Int)<0)=I:=Rk K9;have q1:decide ((s.size:Int)<=(a:Int))=I:=Rk K9;have ac:a<s.size:=K9;have a1:=yg ac;obtain⟨c,hc⟩:∃ c,lL s a=c:=⟨_,rfl⟩
  have a9:c<256:=hc ▸ Db s a;rw[hc] at a1;have ak:0<=(s[a].toNat:Int)/\(s[a].toNat:Int)<=255:=K9;by_cases hc17:c<=17
  case neg=>
   have HD:=fh (xo (s:=s) (a:=(a:Int)) (fun h=>by rw[Ry,hc] at h;exact hc17 h.2.2.1));have HZ:=fh (show zS (s[a].toNat:Int)=0 from by rw[<-a1,AA,Ro (by simp[fP];omega)]);obtain⟨n,sg,hw⟩:∃ n sg,iy (s[a].toNat:Int)=(n,sg):=⟨_,_,rfl⟩
   have ag:n<=4:=by have:=rI (s[a].toNat:Int);rw[hw] at this;exact this
   have HW:=fh hw;clear hw;exact uH
  obtain⟨n,sg,hw⟩:∃ n sg,iy (c:Int)=(n,sg):=⟨_,_,rfl⟩
  have a3:=AP (c:Int);rw[hw] at a3;have ag:n<=4:=by have:=rI (c:Int);rw[hw] at this;exact this
  have HZ:=fh (show zS (s[a].toNat:Int)=(n:Int)+1 from by rw[<-a1,AA,Rs (oz K9 K9),hw]);have HW:=fh (show iy (s[a].toNat:Int)=(n,sg) from by rw[<-a1];exact hw);by_cases hfit:a+1+n<=s.size
  case neg=>
   have HD:=fh (xo (s:=s) (a:=(a:Int)) (fun h=>by rw[Ry,hc,hw] at h;exact hfit h.2.2.2));have aa:((n:Int)+1 == 0)=I:=by simp;omega
   have ab:decide ((s.size:Int)<(a:Int)+1+(n:Int))=M:=Rp K9;clear hw hc a1;exact uH
  have HD:=fh (CP ac hc hc17 hw hfit);have aa:((n:Int)+1 == 0)=I:=by simp;omega
  have ab:decide ((s.size:Int)<(a:Int)+1+(n:Int))=I:=Rk K9;clear hw hc;go_enter func135,ntmps135
  go_wp2_with(first
   | (go_at_call 167;(with_reducible refine(zga _ _).mono ?_);rw[HZ.out];rintro e w1 ⟨rfl,rfl⟩)
   | (go_at_call 180;(with_reducible refine(zd8 _ _).mono ?_);rw[HW.out];rintro e w1 ⟨rfl,rfl⟩))
  have hG:fu w ((w.alloc (F #[J Z 0,J Z 0] 142)).alloc (F #[J Z (s[a].toNat:Int),J Z 0] 142)):=gG;have er:((w.alloc (F #[J Z 0,J Z 0] 142)).alloc (F #[J Z (s[a].toNat:Int),J Z 0] 142)).heap[w.heap.size]?=D (F #[J Z 0,J Z 0] 142 (0,0)):=zj (Re w _) gF
  have ex:((w.alloc (F #[J Z 0,J Z 0] 142)).alloc (F #[J Z (s[a].toNat:Int),J Z 0] 142)).heap[w.heap.size+1]?=D (F #[J Z (s[a].toNat:Int),J Z 0] 142 (0,0)):=by
   exact vD
  obtain⟨g,hg⟩:∃ g,w.heap.size=g:=⟨_,rfl⟩
  rw[hg] at er ex |-;generalize ((w.alloc _).alloc _)=Y at hG er ex |-;go_loopw [10] (fun x wr=>∃(j:Nat),x=J Z j/\j<=n/\Hid (wr.heap[g+1]?=D (F #[J Z (s[a].toNat:Int),J Z (nG s (a+1) j:Nat)] 142 (0,0)))/\Hid (wr.heap[g]?=D (F #[J Z 0,J Z 0] 142 (0,0)))/\Hid (fu w wr)) (fun x _=>n-(RS x).toNat)
  case atStart=>exact⟨0,rfl,K9,fh ex,fh er,fh hG⟩
  case round=>
   clear hG er ex;obtain⟨j,rfl,hj,hx,hr,hG⟩:=hrel;obtain⟨x0,x1,an,ao,xl⟩:=jT hx.out;by_cases hjn:j<n
   ·have af:a+1+j<s.size:=K9
    have hb:=yg af;have ae:0<=(s[a+1+j].toNat:Int)/\(s[a+1+j].toNat:Int)<=255:=by have:=s[a+1+j].toNat_lt;omega
    have hul:=tw s (a+1) j;have hor:=MQ (m:=nG s (a+1) j) (j:=j) (b:=s[a+1+j].toNat) K9 K9 hul;exact Xa
   ·obtain rfl:j=n:=K9
    have hul:=tw s (a+1) j;obtain⟨u,hu⟩:∃ u,nG s (a+1) j=u:=⟨_,rfl⟩
    rw[hu] at hul x1 HD;have h0:=hr.out;have a8:=hx.out;rw[hu] at a8;clear hx hr;obtain⟨r0,r1,al,am,rl⟩:=jT h0;have a0:(sg=M/\2 ^ (8*j-1)<=u)∨¬ (sg=M/\2 ^ (8*j-1)<=u):=Classical.em _;clear hu HZ HW hfit aa ab;rcases a0 with a0 | a0
    ·have a4:je s (a:Int)=⟨(c:Int),(u:Int)-2 ^ (8*j),j+1,M⟩:=by rw[HD.out];unfold qU;rw[Rs a0]
     have HQ:=fh a4;obtain⟨rfl,a0⟩:=a0;clear a4 HD;simp only[Tp,UB,Ud,and_false,Tm,false_or] at a3;rcases a3 with rfl | rfl
     ·skip
      have a5:(2147483648:Int)<=(u:Int):=by simp at a0;omega
      have a7:(u:Int)<4294967296:=by simp at hul;omega
      have ah:Rg Z ((u:Int)-4294967296)=(u:Int)-4294967296:=iw;clear hul a0;go_wp2_with(fail);go_region;go_wp2_with(fail);go_region;go_wp2_with(fail);have hk:=yI a8 (J Z ((u:Int)-4294967296));have h1:=(hk.2.block g K9 II).trans h0;have h2:=rQ h1 (J Z (s[a].toNat:Int)) (J Z ((u:Int)-4294967296));have hz:=jT h2.1;refine Rj (v:=.tuple #[.agg #[J Z (s[a].toNat:Int),J Z ((u:Int)-4294967296)],J Z ((1+4:Nat):Int),H M]) (by simp[Rv,results135,go_sem,hz,rl]) rfl ?_;exact pF (q:=⟨(s[a].toNat:Int),(u:Int)-4294967296,1+4,M⟩) (by rw[HQ.out,a1];try (first | rfl | rw[Uj])) ((h2.2.fy (hk.2.fy hG.out (fun b hb=>by simp at hb;omega)) (fun b hb=>by simp at hb;omega)).trans gF)
     ·skip
      have a5:(32768:Int)<=(u:Int):=by simp at a0;omega
      have a7:(u:Int)<65536:=by simp at hul;omega
      have ah:Rg Z ((u:Int)-65536)=(u:Int)-65536:=iw;clear hul a0;go_wp2_with(fail);go_region;go_wp2_with(fail);go_region;go_wp2_with(fail);have hk:=yI a8 (J Z ((u:Int)-65536));have h1:=(hk.2.block g K9 II).trans h0;have h2:=rQ h1 (J Z (s[a].toNat:Int)) (J Z ((u:Int)-65536));have hz:=jT h2.1;refine Rj (v:=.tuple #[.agg #[J Z (s[a].toNat:Int),J Z ((u:Int)-65536)],J Z ((1+2:Nat):Int),H M]) (by simp[Rv,results135,go_sem,hz,rl]) rfl ?_;exact pF (q:=⟨(s[a].toNat:Int),(u:Int)-65536,1+2,M⟩) (by rw[HQ.out,a1];try (first | rfl | rw[Uj])) ((h2.2.fy (hk.2.fy hG.out (fun b hb=>by simp at hb;omega)) (fun b hb=>by simp at hb;omega)).trans gF)
    ·have a4:je s (a:Int)=⟨(c:Int),(u:Int),j+1,M⟩:=by rw[HD.out];unfold qU;rw[Ro a0]
     have HQ:=fh a4;clear a4 HD;cases sg with
     | false=>
      clear a0 a3 hul;go_wp2_with(fail);go_region;go_wp2_with(fail);have h2:=rQ h0 (J Z (s[a].toNat:Int)) (J Z ((u:Int)));have hz:=jT h2.1;refine Rj (v:=.tuple #[.agg #[J Z (s[a].toNat:Int),J Z ((u:Int))],J Z ((1+j:Nat):Int),H M]) (by simp[Rv,results135,go_sem,hz,rl]) rfl ?_;exact pF (q:=⟨(s[a].toNat:Int),(u:Int),1+j,M⟩) (by rw[HQ.out,a1];try (first | rfl | rw[Uj])) ((h2.2.fy hG.out (fun b hb=>by simp at hb;omega)).trans gF)
     | true=>
      have a2:¬ 2 ^ (8*j-1)<=u:=fun h=>a0 ⟨rfl,h⟩;simp only[Tp,UB,Ud,and_false,Tm,false_or] at a3;rcases a3 with rfl | rfl
      ·have a5:decide ((2147483648:Int)<=(u:Int))=I:=Rk (by simp at a2;omega)
       clear a0 a2 hul;go_wp2_with(fail);go_region;go_wp2_with(fail);have h2:=rQ h0 (J Z (s[a].toNat:Int)) (J Z ((u:Int)));have hz:=jT h2.1;refine Rj (v:=.tuple #[.agg #[J Z (s[a].toNat:Int),J Z ((u:Int))],J Z ((1+4:Nat):Int),H M]) (by simp[Rv,results135,go_sem,hz,rl]) rfl ?_;exact pF (q:=⟨(s[a].toNat:Int),(u:Int),1+4,M⟩) (by rw[HQ.out,a1];try (first | rfl | rw[Uj])) ((h2.2.fy hG.out (fun b hb=>by simp at hb;omega)).trans gF)
      ·have a5:decide ((32768:Int)<=(u:Int))=I:=Rk (by simp at a2;omega)
       clear a0 a2 hul;go_wp2_with(fail);go_region;go_wp2_with(fail);have h2:=rQ h0 (J Z (s[a].toNat:Int)) (J Z ((u:Int)));have hz:=jT h2.1;refine Rj (v:=.tuple #[.agg #[J Z (s[a].toNat:Int),J Z ((u:Int))],J Z ((1+2:Nat):Int),H M]) (by simp[Rv,results135,go_sem,hz,rl]) rfl ?_;exact pF (q:=⟨(s[a].toNat:Int),(u:Int),1+2,M⟩) (by rw[HQ.out,a1];try (first | rfl | rw[Uj])) ((h2.2.fy hG.out (fun b hb=>by simp at hb;omega)).trans gF)
end Go.Proofs.YthgbglbaemelhaaGreat
