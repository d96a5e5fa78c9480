/-
  PART.
-/
import Derived.Test.YthgbglbaemelhaaGreatM0LawRecords
import Derived.Deep.DeepMust
import Derived.Laws.Bits128
set_option linter.unusedVariables false
set_option linter.unusedSimpArgs false
set_option maxRecDepth 100000
set_option maxHeartbeats 8000000
namespace Go.Proofs.YthgbglbaemelhaaGreat
open Value renaming slice->J,int->C,bool->X,string->Q
open IntKind renaming i64->Z,wrap->Vl
open Option renaming none->I,some->F
open Obj renaming cells->U
open Bool renaming false->M,true->H
open Go renaming World->V,results->VF,Calls->VK,Addr->VQ,TypeId->Wl,Ending->Z9,yielded->Xb
open World renaming cell?->Vg,frozen?->VE
open _root_.Int renaming toNat_natCast->Vy
open _root_.Array renaming length_toList->Wg
open List renaming length_singleton->Wi
open RowKit renaming intOf->Wj,wrap64->Xr
open UInt8 renaming ofNat->WT
open _root_.Nat renaming pow_succ->Yw
open Region renaming wanted->V6,ready->Wv,noSelect->XV,free->YI
open Tryz
open Go.RowKit
variable {A A0:N VQ}{B a c c0 e f g i j k m n:Nat}{L:D UInt8}{S S1:D Nat}{W w:V}{b q:Value}{code s:G}{cs:D Value}{p:D fB}{prev:D G}{x:fB}
def pG (k:Int):Bool:=decide (k=0) || (decide (k=3) || decide (k=5))
def mH (x:fB):Int:=if pG x.fC=H then 1 else if x.fC=7 then -1 else 0
def zM (p:D fB)(i:Nat):Int:=((p.take i).map mH).sum
theorem uP (h:p[i]?=F x):zM p (i+1)=zM p i+mH x:=by
 obtain⟨h1,rfl⟩:=Vh.1 h;unfold zM;rw[List.take_succ_eq_append_getElem h1,X9,List.sum_append];simp
theorem Ak (x:fB):(pG x.fC=H/\mH x=1)∨(pG x.fC=M/\x.fC=7/\mH x = -1)∨(pG x.fC=M/\x.fC≠7/\mH x=0):=by
 unfold mH;cases h:pG x.fC with
 | true=>exact .inl ⟨rfl,rfl⟩
 | false=>
  by_cases h7:x.fC=7
  ·exact .inr (.inl ⟨rfl,h7,by simp[h7]⟩)
  ·exact .inr (.inr ⟨rfl,h7,by simp[h7]⟩)
def tw:D fB->Int->Nat->Int
 | [],_,_=>-1
 | x::r,o,i=>if o+mH x=0 then (i:Int) else tw r (o+mH x) (i+1)
def jA (p:D fB)(k:Int):Int:=if k<0 then -1 else match p[k.toNat]? with
 | none=>-1
 | some x=>if pG x.fC=H then tw (p.drop k.toNat) 0 k.toNat else -1
theorem Bn (h:p[i]?=F x)(o:Int):tw (p.drop i) o i=if o+mH x=0 then (i:Int) else tw (p.drop (i+1)) (o+mH x) (i+1):=by
 obtain⟨h1,rfl⟩:=Vh.1 h;rw[VB h1];rfl
structure gZ (p:D fB)(k e:Nat):Prop where
 op:∃ x,p[k]?=F x/\pG x.fC=H
 lt:k<e
 len:e<p.length
 eq:zM p (e+1)=zM p k
 up:∀ i,k<i->i<=e->zM p k<zM p i
theorem G1 {p:D fB}{k:Nat}:∀(m i:Nat),p.length-i=m->k<=i->(∀ j,k<j->j<=i->zM p k<zM p j)->(i=k->∃ x,p[k]?=F x/\pG x.fC=H)->
  (tw (p.drop i) (zM p i-zM p k) i = -1/\∀ j,i<=j->j<p.length->zM p (j+1)≠zM p k)∨∃ e:Nat,tw (p.drop i) (zM p i-zM p k) i=(e:Int)/\i<=e/\e<p.length/\zM p (e+1)=zM p k/\∀ j,k<j->j<=e->zM p k<zM p j
 | 0,i,hm,hk,hu,h0=>by
  rw[XG fh];exact .inl ⟨rfl,fun j h1 h2=>fh⟩
 | m+1,i,hm,hk,hu,h0=>by
  have hi:i<p.length:=fh;have hx:p[i]?=F p[i]:=Vq hi;have hs:=uP hx;rw[Bn hx,show zM p i-zM p k+mH p[i]=zM p (i+1)-zM p k from fh];by_cases he:zM p (i+1)-zM p k=0
  ·rw[Vs he]
   exact .inr ⟨i,rfl,Vz _,hi,fh,hu⟩
  ·rw[Vo he]
   have a1:zM p k<zM p (i+1):=by
    rcases Y7 hk with h | h
    ·obtain⟨x,a0,ho⟩:=h0 h.symm
     subst h;rw[hx] at a0;injection a0 with a0
     rcases Ak p[k] with⟨_,h2⟩ | ⟨h2,_⟩ | ⟨h2,_⟩
     ·omega
     ·rw[a0,ho] at h2;cases h2
     ·rw[a0,ho] at h2;cases h2
    ·have h1:=hu i h (Vz _)
     rcases Ak p[i] with⟨_,h2⟩ | ⟨_,_,h2⟩ | ⟨_,_,h2⟩ <;> omega
   rcases G1 (p:=p) (k:=k) m (i+1) fh fh (fun j h1 h2=>by
    by_cases hj:j=i+1
    ·subst hj;exact a1
    ·exact hu j h1 fh) (fun h=>fh) with⟨g1,g2⟩ | ⟨e,g1,g2,g3,g4,g5⟩
   ·exact .inl ⟨g1,fun j h1 h2=>by
     by_cases hj:j=i
     ·subst hj;omega
     ·exact g2 j fh h2⟩
   ·exact .inr ⟨e,g1,fh,g3,g4,g5⟩
theorem zs (p:D fB)(k:Nat):(jA p k = -1/\∀ e,¬ gZ p k e)∨∃ e:Nat,jA p k=(e:Int)/\gZ p k e:=by
 unfold jA;rw[Vo fh,Vy];cases hx:p[k]? with
 | none=>exact .inl ⟨rfl,fun e h=>by obtain⟨x,h1,_⟩:=h.op;rw[hx] at h1;cases h1⟩
 | some x=>
  cases ho:pG x.fC with
  | false=>exact .inl ⟨by simp[ho],fun e h=>by obtain⟨y,h1,h2⟩:=h.op;rw[hx] at h1;injection h1 with h1;rw[<-h1,ho] at h2;cases h2⟩
  | true=>
   simp only[ho,Xe];have a0:=(Vh.1 hx).1;rcases G1 (p:=p) (k:=k) _ k rfl (Vz _) (fun j h1 h2=>fh) (fun _=>⟨x,hx,ho⟩) with⟨g1,g2⟩ | ⟨e,g1,g2,g3,g4,g5⟩
   ·rw[Int.sub_self] at g1
    exact .inl ⟨g1,fun e h=>g2 e (by have:=h.lt;omega) h.len h.eq⟩
   ·rw[Int.sub_self] at g1
    refine .inr ⟨e,g1,⟨x,hx,ho⟩,?_,g3,g4,g5⟩;rcases Y7 g2 with h | h
    ·subst h
     have hs:=uP hx;rcases Ak x with⟨_,h2⟩ | ⟨h2,_⟩ | ⟨h2,_⟩
     ·omega
     ·rw[ho] at h2;cases h2
     ·rw[ho] at h2;cases h2
    ·exact h
theorem O6 (h:jA p k=(e:Int)):gZ p k e:=by
 rcases zs p k with⟨h1,_⟩ | ⟨e',h1,h2⟩
 ·omega
 ·have:e'=e:=fh
  subst this;exact h2
theorem gZ.kR {e':Nat} (h:gZ p k e)(h':gZ p k e'):e=e':=by
 rcases YK e e' with hl | hl | hl
 ·have:=h'.up (e+1) (by have:=h.lt;omega) fh;have:=h.eq;omega
 ·exact hl
 ·have:=h.up (e'+1) (by have:=h'.lt;omega) fh;have:=h'.eq;omega
theorem gZ.ju (h:gZ p k e):jA p k=(e:Int):=by
 rcases zs p k with⟨_,h2⟩ | ⟨e',h1,h2⟩
 ·exact absurd h (h2 e)
 ·rw[h1,h.kR h2]
theorem JW {k:Int} (h:k<0):jA p k = -1:=by unfold jA;rw[Vs h]
theorem yy (p:D fB)(k:Int):jA p k = -1∨∃ a e:Nat,k=(a:Int)/\jA p k=(e:Int)/\gZ p a e:=by
 by_cases hk:k<0
 ·exact .inl (JW hk)
 ·obtain⟨a,rfl⟩:∃ a:Nat,k=(a:Int):=⟨k.toNat,fh⟩
  rcases zs p a with⟨h,_⟩ | ⟨e,h1,h2⟩
  ·exact .inl h
  ·exact .inr ⟨a,e,rfl,h1,h2⟩
theorem Mr {p:D fB}{v:Int}:∀(m i j:Nat),j-i=m->i<=j->j<=p.length->v<zM p i->zM p j<=v->∃ e,i<=e/\e<j/\zM p (e+1)=v/\∀ q,i<=q->q<=e->v<zM p q
 | 0,i,j,hm,hij,hl,h1,h2=>by
  have:i=j:=by omega
  subst this;omega
 | m+1,i,j,hm,hij,hl,h1,h2=>by
  have hi:i<p.length:=by omega
  have hs:=uP (Vq hi);by_cases he:zM p (i+1)=v
  ·exact⟨i,Vz _,by omega,he,fun q a b=>by
    have:q=i:=by omega
    subst this;exact h1⟩
  ·have:v<zM p (i+1):=by rcases Ak p[i] with⟨_,h⟩ | ⟨_,_,h⟩ | ⟨_,_,h⟩ <;> omega
   obtain⟨e,g1,g2,g3,g4⟩:=Mr m (i+1) j (by omega) (by omega) hl this h2
   exact⟨e,by omega,g2,g3,fun q a b=>by
    by_cases hq:q=i
    ·subst hq;exact h1
    ·exact g4 q (by omega) b⟩
theorem gZ.inner (h:gZ p k e)(h1:k<i)(h2:i<e)(hx:p[i]?=F x)(ho:pG x.fC=H):∃ e',gZ p i e'/\i<e'/\e'<e:=by
 have hl:=h.len;have hs:=uP hx;have hd:mH x=1:=by unfold mH;rw[Vs ho]
 have a0:=h.up i h1 (by omega);obtain⟨e',g1,g2,g3,g4⟩:=Mr (p:=p) (v:=zM p i) _ (i+1) (e+1) rfl (by omega) (by omega) (by omega) (by rw[h.eq];omega)
 have:e'≠e:=by
  intro hh;subst hh;have:=h.eq;omega
 exact⟨e',⟨⟨x,hx,ho⟩,by omega,by omega,g3,fun q a b=>g4 q (by omega) b⟩,by omega,by omega⟩
theorem gZ.last (h:gZ p k e):∃ x,p[e]?=F x/\x.fC=7:=by
 have hl:=h.len;have hx:p[e]?=F p[e]:=Vq h.len;have hs:=uP hx;have h1:=h.up e h.lt (Vz _);have h2:=h.eq;refine⟨_,hx,?_⟩;rcases Ak p[e] with⟨_,h⟩ | ⟨_,h,_⟩ | ⟨_,_,h⟩
 ·omega
 ·exact h
 ·omega
theorem gZ.same (h:gZ p i e)(h':gZ p j e):i=j:=by
 rcases YK i j with hl | hl | hl
 ·obtain⟨x,hx,ho⟩:=h'.op
  obtain⟨e',g1,_,g3⟩:=h.inner hl h'.lt hx ho;have:=g1.kR h';omega
 ·exact hl
 ·obtain⟨x,hx,ho⟩:=h.op
  obtain⟨e',g1,_,g3⟩:=h'.inner hl h.lt hx ho;have:=g1.kR h;omega
def qN (p:D fB):Nat->Nat->Int->Int
 | 0,_,_=>-1
 | n+1,i,e=>if (i:Int)<e then (match p[i]? with
   | none=>-1
   | some x=>if x.fC=3∨x.fC=5 then qN p n ((jA p i).toNat+1) e else if x.fC=4 then (i:Int) else qN p n (i+1) e) else -1
def kH (p:D fB)(k:Int):Int:=if jA p k<0 then -1 else match p[k.toNat]? with
 | none=>-1
 | some x=>if x.fC=3 then qN p p.length (k.toNat+1) (jA p k) else -1
theorem Fm (h:gZ p k e):∀(n i:Nat),k<i->i<=e->e-i<n->qN p n i (e:Int)=if (i:Int)<(e:Int) then (match p[i]? with
   | none=>-1
   | some x=>if x.fC=3∨x.fC=5 then qN p (n-1) ((jA p i).toNat+1) e else if x.fC=4 then (i:Int) else qN p (n-1) (i+1) e) else -1
 | 0,_,_,_,hn=>fh
 | n+1,i,h1,h2,hn=>rfl
structure jU (p:D fB)(k j:Nat):Prop where
 iff:∃ x,p[k]?=F x/\x.fC=3
 lt:k<j
 AW:∃ x,p[j]?=F x/\x.fC=4
 jD:∃ e,gZ p k e/\j<e
 out:∀ i x,k<i->i<j->p[i]?=F x->pG x.fC=H->x.fC≠0->∃ e,gZ p i e/\e<j
theorem Oa (h:gZ p k e)(hk:∃ x,p[k]?=F x/\x.fC=3):∀(m n i:Nat),e-i=m->k<i->i<=e->e-i<n->(∀ q x,k<q->q<i->p[q]?=F x->pG x.fC=H->x.fC≠0->∃ b,gZ p q b/\b<i)->
  qN p n i (e:Int) = -1∨∃ j:Nat,qN p n i (e:Int)=(j:Int)/\jU p k j:=by
 intro m;induction m using Nat.strongRecOn with
 | ind m ih=>
  intro n i hm h1 h2 hn ho;rw[Fm h n i h1 h2 hn];by_cases hi:(i:Int)<(e:Int)
  ·rw[Vs hi]
   have a0:i<p.length:=by have:=h.len;omega
   have hx:p[i]?=F p[i]:=Vq a0;rw[hx];simp only;by_cases hki:p[i].fC=3∨p[i].fC=5
   ·rw[Vs hki]
    have a1:pG p[i].fC=H:=by rcases hki with hk | hk <;> (rw[hk];decide)
    obtain⟨e',g1,g2,g3⟩:=h.inner h1 fh hx a1;rw[g1.ju,Vy];refine ih (e-(e'+1)) fh _ _ rfl fh fh fh (fun q x a b c d z=>?_);rcases YK q i with hq | hq | hq
    ·obtain⟨b',w1,w2⟩:=ho q x a hq c d z
     exact⟨b',w1,fh⟩
    ·subst hq
     exact⟨e',g1,fh⟩
    ·by_cases hqe:q=e'
     ·subst hqe
      obtain⟨y,hy,h7⟩:=g1.last;rw[c] at hy;injection hy with hy
      rw[hy,h7] at d;cases d
     ·obtain⟨b',w1,w2,w3⟩:=g1.inner hq fh c d
      exact⟨b',w1,fh⟩
   ·rw[Vo hki]
    by_cases h4:p[i].fC=4
    ·rw[Vs h4]
     exact .inr ⟨i,rfl,hk,h1,⟨_,hx,h4⟩,⟨e,h,fh⟩,ho⟩
    ·rw[Vo h4]
     refine ih (e-(i+1)) fh _ _ rfl fh fh fh (fun q x a b c d z=>?_);by_cases hq:q=i
     ·subst hq
      rw[hx] at c;injection c with c
      subst c;exfalso;unfold pG at d;simp only[Ya,VD] at d;omega
     ·obtain⟨b',w1,w2⟩:=ho q x a fh c d z
      exact⟨b',w1,fh⟩
  ·rw[Vo hi]
   exact .inl rfl
theorem Cv (p:D fB)(k:Nat):kH p k = -1∨∃ j:Nat,kH p k=(j:Int)/\jU p k j:=by
 unfold kH;rcases zs p k with⟨h,_⟩ | ⟨e,h1,h2⟩
 ·rw[h];exact .inl rfl
 ·rw[h1,Vo fh,Vy]
  obtain⟨x,hx,ho⟩:=h2.op;rw[hx];simp only;by_cases h3:x.fC=3
  ·rw[Vs h3]
   have:=h2.len;have:=h2.lt;exact Oa h2 ⟨x,hx,h3⟩ _ _ _ rfl fh fh fh (fun q x a b=>fh)
  ·rw[Vo h3]
   exact .inl rfl
theorem jU.same (h:jU p i k)(h':jU p j k):i=j:=by
 rcases YK i j with hl | hl | hl
 ·obtain⟨x,hx,h3⟩:=h'.iff
  obtain⟨e,g1,g2⟩:=h.out j x hl h'.lt hx (by rw[h3];decide) (by rw[h3];decide);obtain⟨e',w1,w2⟩:=h'.jD;have:=g1.kR w1;omega
 ·exact hl
 ·obtain⟨x,hx,h3⟩:=h.iff
  obtain⟨e,g1,g2⟩:=h'.out i x hl h.lt hx (by rw[h3];decide) (by rw[h3];decide);obtain⟨e',w1,w2⟩:=h.jD;have:=g1.kR w1;omega
def lh (n:Nat):D UInt8:=if n<128 then [WT n] else WT (n % 128+128)::lh (n / 128)
termination_by n
decreasing_by omega
theorem AC (h:n<128):lh n = [WT n]:=by rw[lh,Vs h]
theorem Fs (h:128<=n):lh n=WT (n % 128+128)::lh (n / 128):=by rw[lh,Vo fh]
def jq (n:Int):G:=if gE n 0 1099511627775 then ⟨(lh n.toNat).toArray⟩ else ⟨#[]⟩
theorem Ec (k:IntKind)(x y:Int):bits .or k x y=bits .or k y x:=by simp only[bits,BitVec.or_comm]
theorem CQ (n:Int)(h0:0<=n)(h1:n<2 ^ 62):Vl Z n=n:=WI n ⟨fh,fh⟩
theorem Py (m:Nat):bits .or Z ((m:Int) % 128) 128=(m:Int) % 128+128:=by
 rw[Ec,bits_join Z 62 gv CQ 7 128 _ gv gv gv fh fh fh];omega
theorem E5 (n:Nat)(h:n<256):nV.R w B [C .u8 (n:Int)] (WT n):=Kr (x:=(n:Int)) fh fh
theorem Pz (m:Nat):nV.R w B [C .u8 ((m:Int) % 128+128)] (WT (m % 128+128)):=E5 (m % 128+128) fh
theorem wA {g:Prop} (f:g:=by
  go_loopw [0,3] (fun a b wr=>∃(m:Nat) (acc:D UInt8) (A:N VQ) (c:Nat),a=C Z m/\b=J A acc.length c/\acc.length+m<=n/\Hid (acc++lh m=lh n)/\Hid (fy w wr)/\Hid (gH (nV.sl 5) w wr [J A acc.length c] acc)) (fun a _ _=>(Wj a).toNat)
  case atStart=>exact⟨n,[],_,0,rfl,rfl,gm,fk gm,fk gG,fk (yp gG gm)⟩
  case round=>
   obtain⟨m,acc,A,c,rfl,rfl,hm,HT,hG,hF⟩:=hrel
   obtain⟨os,d,rfl⟩:=hG.out
   clear hG
   by_cases hlt:127<m
   ·have e1:=i64_and127 m
    have e2:=Py m
    have HN:=fk (Fs (n:=m) fh)
    go_wp2_with(at_builtin;go_must (refine yo (L:=acc.length+1) rfl (.tmp 10) (.tmp 15) Do Cs (W0:=w) (hF.out.fH gG).mw gG (W1:=w) (B:=0) (ec:=[C .u8 ((m:Int) % 128+128)]) (y:=WT (m % 128+128)) (Pz m) rfl rfl rfl (by intro j u hu;simpa[go_sem] using hu) rfl fh fh ?_);intro A2 c2 os2 d2 hF2)
    go_roundw
    exact⟨m / 128,acc++[WT (m % 128+128)],A2,c2,io,gm,by simp;omega,fk (by rw[<-HT.out,HN.out];simp),fk gG,fk (by simpa using hF2)⟩
    exact iC
   ·have HN:=fk (AC (n:=m) fh)
    go_wp2_with(at_builtin;go_must (refine yo (L:=acc.length+1) rfl (.tmp 19) (.tmp 22) Do Cs (W0:=w) (hF.out.fH gG).mw gG (W1:=w) (B:=0) (ec:=[C .u8 (m:Int)]) (y:=WT m) (E5 m fh) rfl rfl rfl (by intro j u hu;simpa[go_sem] using hu) rfl fh fh ?_);intro A2 c2 os2 d2 hF2;have kc:=Ed hF2.read)
    go_ret
    exact⟨nu (by rw[HS.out,<-HT.out,HN.out]),gG⟩):g:=f
theorem zku (n:Int)(w:V):VK prog 62 #[C Z n] w fun e w'=>e=.returned (Q (jq n))/\fy w w':=by
 cases hb:gE n 0 1099511627775
 ·have HS:=fk (show jq n=⟨#[]⟩ from by simp[jq,hb])
  have HB:=fk hb;clear hb;go_enter func62,ntmps62;go_wp2_with(go_at_call 38;refine(lf _ _ _ _).mono ?_;rw[HB.out];rintro e w1 ⟨rfl,rfl⟩);go_ret;exact⟨nu HS.out.symm,gG⟩
 ·obtain⟨a0,a1⟩:=zr.1 hb
  obtain⟨n,rfl⟩:=VI a0;have HS:=fk (show jq n=⟨(lh n).toArray⟩ from by simp[jq,hb]);have HB:=fk hb;clear hb;go_enter func62,ntmps62;go_wp2_with(go_at_call 38;refine(lf _ _ _ _).mono ?_;rw[HB.out];rintro e w1 ⟨rfl,rfl⟩);exact wA
theorem zgs (n:Int)(w:V):VK prog 117 #[C Z n] w fun e w'=>e=.returned (Q (jq n))/\fy w w':=by
 cases hb:gE n 0 1099511627775
 ·have HS:=fk (show jq n=⟨#[]⟩ from by simp[jq,hb])
  have HB:=fk hb;clear hb;go_enter func117,ntmps117;go_wp2_with(go_at_call 43;refine(iU _ _ _ _).mono ?_;rw[HB.out];rintro e w1 ⟨rfl,rfl⟩);go_ret;exact⟨nu HS.out.symm,gG⟩
 ·obtain⟨a0,a1⟩:=zr.1 hb
  obtain⟨n,rfl⟩:=VI a0;have HS:=fk (show jq n=⟨(lh n).toArray⟩ from by simp[jq,hb]);have HB:=fk hb;clear hb;go_enter func117,ntmps117;go_wp2_with(go_at_call 43;refine(iU _ _ _ _).mono ?_;rw[HB.out];rintro e w1 ⟨rfl,rfl⟩);exact wA
def pF (L:D UInt8)(a:Nat):Nat->Nat->Nat->Nat × Nat × Bool
 | 0,_,_=>(0,0,M)
 | f+1,k,n=>match L[a+k]? with
  | none=>(0,0,M)
  | some b=>if b.toNat<128 then (if (jq ((n+b.toNat % 128*128 ^ k:Nat):Int)).data.toList=(L.drop a).take (k+1) then (n+b.toNat % 128*128 ^ k,k+1,H) else (0,0,M)) else pF L a f (k+1) (n+b.toNat % 128*128 ^ k)
theorem zh {b:UInt8} (h:L[a+k]?=F b):pF L a (f+1) k n=if b.toNat<128 then (if (jq ((n+b.toNat % 128*128 ^ k:Nat):Int)).data.toList=(L.drop a).take (k+1) then (n+b.toNat % 128*128 ^ k,k+1,H) else (0,0,M)) else pF L a f (k+1) (n+b.toNat % 128*128 ^ k):=by
 rw[pF,h]
theorem Bt (h:L[a+k]?=I):pF L a (f+1) k n=(0,0,M):=by
 rw[pF,h]
def iN (s:G)(a:Int):Nat × Nat × Bool:=if 0<=a then pF s.data.toList a.toNat 6 0 0 else (0,0,M)
def F5 (p:Nat × Nat × Bool)(w:V)(e:Z9)(w':V):Prop:=e=.returned (.tuple #[C Z p.1,C Z p.2.1,X p.2.2])/\fy w w'
theorem us {p q:Nat × Nat × Bool} (h:p=q){w w':V}(hG:fy w w'):F5 p w (.returned (.tuple #[C Z q.1,C Z q.2.1,X q.2.2])) w':=by
 subst h;exact⟨rfl,hG⟩
theorem C9 (s:G)(a b:Nat):(s.extract a b).data.toList=(s.data.toList.drop a).take (b-a):=by
 rw[ByteArray.data_extract,Array.toList_extract]
theorem FH {a:Int} (hb:gE a 0 ((s.size:Int)-1)=M):iN s a=(0,0,M):=by
 unfold iN;split
 ·rename_i h0
  obtain⟨n,rfl⟩:=VI h0
  have hn:s.data.toList[(n:Int).toNat+0]?=I:=by
   rw[WN];have h1:s.data.toList.length=s.size:=by rw[Wg];rfl
   have:¬ (n:Int)<=s.size-1:=fun h=>by rw[pU fh h] at hb;cases hb
   rw[h1,Vy];omega
  exact Bt hn
 ·rfl
theorem Gc (j:Nat):(2:Int) ^ (7*j)=((128 ^ j:Nat):Int):=by
 rw[Int.pow_mul];norm_cast
theorem Jm (b:UInt8):bits .and .u8 (b.toNat:Int) 127=(b.toNat:Int) % 128:=bits_mask .u8 8 gv wraps_u8 7 gv _ fh (by have:=b.toNat_lt;omega)
theorem KU (b:UInt8)(hj:j<6)(hm:m<128 ^ j):bits .or Z (m:Int) (Xr ((b.toNat:Int) % 128*2 ^ (7*j)))=((m+b.toNat % 128*128 ^ j:Nat):Int)/\m+b.toNat % 128*128 ^ j<128 ^ (j+1)/\m+b.toNat % 128*128 ^ j<4398046511104:=by
 have hp:128 ^ (j+1)<=4398046511104:=by
  have h:=Yt (show 0<128 from fh) (show j+1<=6 from fh);exact h
 have hb:b.toNat % 128<=127:=fh;have a0:b.toNat % 128*128 ^ j<=127*128 ^ j:=Xf _ hb;have hs:(128:Nat) ^ (j+1)=128*128 ^ j:=by rw[Yw,YL]
 have e1:((b.toNat:Int) % 128*2 ^ (7*j))=((b.toNat % 128*128 ^ j:Nat):Int):=by
  rw[Gc];push_cast;rfl
 have e2:Xr ((b.toNat % 128*128 ^ j:Nat):Int)=((b.toNat % 128*128 ^ j:Nat):Int):=uq fh fh;refine⟨?_,fh,fh⟩;rw[e1,e2,Ec,bits_join Z 62 gv CQ (7*j) _ _ fh (by rw[Gc];norm_cast;exact Nat.mul_mod_left _ _) (by norm_cast;omega) fh (by rw[Gc];exact_mod_cast hm) (by norm_cast;omega)];push_cast;omega
theorem xS {g:Prop} (f:g:=by
  subst hje
  have hQ:=fk (show iN s a=(0,0,M) from by rw[HS.out,<-HT.out];rfl)
  go_wp2_with(fail)
  go_ret3
  exact us (q:=(0,0,M)) hQ.out gG):g:=f
theorem xT {g:Prop} (f:g:=by
  go_wp2_with(fail)
  go_roundw
  exact⟨v,j+1,rfl,io,fh,O2,fh,fk (by rw[<-HT.out,HFu.out,HF2.out,HD.out,Vo fh,HV.out]),fk gG⟩
  exact iC):g:=f
theorem zha (s:G)(a:Int)(w:V)(hs:s.size<=1099511627776)(ha:fQ a):VK prog 64 #[Q s,C Z a] w (F5 (iN s a) w):=by
 obtain⟨a3,a4⟩:=ha;cases hb:gE a 0 ((s.size:Int)-1)
 ·have HS:=fk (FH hb)
  have HB:=fk hb;clear hb;go_enter func64,ntmps64;go_wp2_with(go_at_call 38;refine(lf _ _ _ _).mono ?_;rw[HB.out];rintro e w1 ⟨rfl,rfl⟩);go_ret3;exact us HS.out gG
 ·obtain⟨a0,a5⟩:=zr.1 hb
  have HB:=fk hb;clear hb;obtain⟨a,rfl⟩:=VI a0;have HS:=fk (show iN s a=pF s.data.toList a 6 0 0 from by simp[iN]);go_enter func64,ntmps64;go_wp2_with(go_at_call 38;refine(lf _ _ _ _).mono ?_;rw[HB.out];rintro e w1 ⟨rfl,rfl⟩);go_loopw [7,8] (fun x y wr=>∃(m j:Nat),x=C Z m/\y=C Z j/\j<=6/\Hid (m<128 ^ j)/\m<4398046511104/\Hid (pF s.data.toList a (6-j) j m=pF s.data.toList a 6 0 0)/\Hid (fy w wr)) (fun _ y _=>6-(Wj y).toNat)
  case atStart=>exact⟨0,0,rfl,rfl,fh,fk fh,fh,fk rfl,fk gG⟩
  case round=>
   obtain⟨m,j,rfl,rfl,hj,hm,a6,HT,hG⟩:=hrel;obtain⟨os,d,rfl⟩:=hG.out;clear hG;by_cases hj6:j<6
   ·obtain⟨f,hf⟩:∃ f,6-j=f+1:=⟨5-j,fh⟩
    have HFu:=fk hf;have HF2:=fk (show 6-(j+1)=f from fh);clear hf;by_cases hlt:a+j<s.size
    ·have HX:=fk (Aq s (a+j) hlt)
     obtain⟨a7,a8⟩:0<=(s[a+j].toNat:Int)/\(s[a+j].toNat:Int)<=255:=by have:=s[a+j].toNat_lt;omega
     obtain⟨o1,o2,o3⟩:=KU s[a+j] hj6 hm.out;obtain⟨v,hv⟩:∃ v,m+s[a+j].toNat % 128*128 ^ j=v:=⟨_,rfl⟩
     rw[hv] at o1 o2 o3;have HV:=fk hv;have O2:=fk o2;clear hv o2;have HD:=fk (zh (f:=f) (n:=m) HX.out);by_cases hb127:127<(s[a+j].toNat:Int)
     ·have e1:=i64_and127 (s[a+j].toNat:Int)
      exact xT
     ·have e1:=i64_and127 (s[a+j].toNat:Int)
      by_cases hq:jq v=s.extract a (a+j+1)
      ·have hQ:=fk (show iN s a=(v,j+1,H) from by
        rw[HS.out,<-HT.out,HFu.out,HD.out,Vs fh,HV.out,Vs (by rw[hq,C9,show a+j+1-a=j+1 from fh])])
       have a1:((jq (v:Int)).toList == (s.extract a ((a:Int)+j+1).toNat).toList)=H:=by
        rw[mb,hq,show ((a:Int)+j+1).toNat=a+j+1 from fh];simp
       clear hq;go_wp2_with(fail);have w1:Vl Z ((a:Int)+j)=(a:Int)+j:=WI _ fh;have w2:Vl Z ((a:Int)+j+1)=(a:Int)+j+1:=WI _ fh;have w3:(0:Int)<=(a:Int)+j+1:=fh;have w4:(a:Int)+j+1<=s.size:=fh;have w5:(a:Int)<=(a:Int)+j+1:=fh;go_region_held3 (fun w'=>True) (trivial) (first | (go_at_call 62;refine(zku _ _).mono ?_;rintro e w2 ⟨rfl,a2,d2,rfl⟩));go_wp2;go_ret3;exact us (q:=(v,j+1,H)) hQ.out gG
      ·have hQ:=fk (show iN s a=(0,0,M) from by
        rw[HS.out,<-HT.out,HFu.out,HD.out,Vs fh,HV.out,Vo];intro h;refine hq (YT (Array.toList_inj.1 ?_))
        rw[h,C9,show a+j+1-a=j+1 from fh])
       have a1:((jq (v:Int)).toList == (s.extract a ((a:Int)+j+1).toNat).toList)=M:=by
        rw[mb,show ((a:Int)+j+1).toNat=a+j+1 from fh];simp[hq]
       clear hq;go_wp2_with(fail);have w1:Vl Z ((a:Int)+j)=(a:Int)+j:=WI _ fh;have w2:Vl Z ((a:Int)+j+1)=(a:Int)+j+1:=WI _ fh;have w3:(0:Int)<=(a:Int)+j+1:=fh;have w4:(a:Int)+j+1<=s.size:=fh;have w5:(a:Int)<=(a:Int)+j+1:=fh;go_region_held3 (fun w'=>True) (trivial) (first | (go_at_call 62;refine(zku _ _).mono ?_;rintro e w2 ⟨rfl,a2,d2,rfl⟩));go_wp2;go_ret3;exact us (q:=(0,0,M)) hQ.out gG
    ·have hQ:=fk (show iN s a=(0,0,M) from by
      rw[HS.out,<-HT.out,HFu.out,Bt];rw[WN,Wg]
      exact Nat.le_of_not_lt hlt)
     go_wp2_with(fail);go_ret3;exact us (q:=(0,0,M)) hQ.out gG
   ·have hje:j=6:=fh
    exact xS
theorem zd1 (s:G)(a:Int)(w:V)(hs:s.size<=1099511627776)(ha:fQ a):VK prog 108 #[Q s,C Z a] w (F5 (iN s a) w):=by
 obtain⟨a2,a3⟩:=ha;by_cases hb1:0<=a
 case neg=>
  have HS:=fk (FH (s:=s) (a:=a) (by simp[gE];omega));go_enter func108,ntmps108;go_wp2;go_ret3;exact us HS.out gG
 by_cases hb2:a<=(s.size:Int)-1
 case neg=>
  have HS:=fk (FH (s:=s) (a:=a) (by simp[gE];omega));go_enter func108,ntmps108;go_wp2_with(fail);go_loop [7,8] (fun x y=>x=C Z 0/\y=C Z 0) (fun _ _=>0)
  case atStart=>exact⟨rfl,rfl⟩
  case round=>
   obtain⟨rfl,rfl⟩:=hrel;go_wp2;go_ret3;exact us HS.out gG
 ·skip
  obtain⟨a,rfl⟩:=VI hb1;have HS:=fk (show iN s a=pF s.data.toList a 6 0 0 from by simp[iN]);go_enter func108,ntmps108;go_wp2_with(fail);go_loopw [7,8] (fun x y wr=>∃(m j:Nat),x=C Z m/\y=C Z j/\j<=6/\Hid (m<128 ^ j)/\m<4398046511104/\Hid (pF s.data.toList a (6-j) j m=pF s.data.toList a 6 0 0)/\Hid (fy w wr)) (fun _ y _=>6-(Wj y).toNat)
  case atStart=>exact⟨0,0,rfl,rfl,fh,fk fh,fh,fk rfl,fk gG⟩
  case round=>
   obtain⟨m,j,rfl,rfl,hj,hm,a4,HT,hG⟩:=hrel;obtain⟨os,d,rfl⟩:=hG.out;clear hG;by_cases hj6:j<6
   ·obtain⟨f,hf⟩:∃ f,6-j=f+1:=⟨5-j,fh⟩
    have HFu:=fk hf;have HF2:=fk (show 6-(j+1)=f from fh);clear hf;by_cases hlt:a+j<s.size
    ·have HX:=fk (Aq s (a+j) hlt)
     obtain⟨a5,a6⟩:0<=(s[a+j].toNat:Int)/\(s[a+j].toNat:Int)<=255:=by have:=s[a+j].toNat_lt;omega
     obtain⟨o1,o2,o3⟩:=KU s[a+j] hj6 hm.out;obtain⟨v,hv⟩:∃ v,m+s[a+j].toNat % 128*128 ^ j=v:=⟨_,rfl⟩
     rw[hv] at o1 o2 o3;have HV:=fk hv;have O2:=fk o2;clear hv o2;have HD:=fk (zh (f:=f) (n:=m) HX.out);by_cases hb127:¬ (s[a+j].toNat:Int)<128
     ·have e1:=Jm s[a+j]
      exact xT
     ·have e1:=Jm s[a+j]
      by_cases hq:jq v=s.extract a (a+j+1)
      ·have hQ:=fk (show iN s a=(v,j+1,H) from by
        rw[HS.out,<-HT.out,HFu.out,HD.out,Vs fh,HV.out,Vs (by rw[hq,C9,show a+j+1-a=j+1 from fh])])
       have a0:((jq (v:Int)).toList == (s.extract a ((a:Int)+j+1).toNat).toList)=H:=by
        rw[mb,hq,show ((a:Int)+j+1).toNat=a+j+1 from fh];simp
       clear hq;go_wp2_with(fail);have w1:Vl Z ((a:Int)+j)=(a:Int)+j:=WI _ fh;have w2:Vl Z ((a:Int)+j+1)=(a:Int)+j+1:=WI _ fh;have w3:(0:Int)<=(a:Int)+j+1:=fh;have w4:(a:Int)+j+1<=s.size:=fh;have w5:(a:Int)<=(a:Int)+j+1:=fh;go_region_held3 (fun w'=>True) (trivial) (first | (go_at_call 117;refine(zgs _ _).mono ?_;rintro e w2 ⟨rfl,a1,d2,rfl⟩));go_wp2;go_ret3;exact us (q:=(v,j+1,H)) hQ.out gG
      ·have hQ:=fk (show iN s a=(0,0,M) from by
        rw[HS.out,<-HT.out,HFu.out,HD.out,Vs fh,HV.out,Vo];intro h;refine hq (YT (Array.toList_inj.1 ?_))
        rw[h,C9,show a+j+1-a=j+1 from fh])
       have a0:((jq (v:Int)).toList == (s.extract a ((a:Int)+j+1).toNat).toList)=M:=by
        rw[mb,show ((a:Int)+j+1).toNat=a+j+1 from fh];simp[hq]
       clear hq;go_wp2_with(fail);have w1:Vl Z ((a:Int)+j)=(a:Int)+j:=WI _ fh;have w2:Vl Z ((a:Int)+j+1)=(a:Int)+j+1:=WI _ fh;have w3:(0:Int)<=(a:Int)+j+1:=fh;have w4:(a:Int)+j+1<=s.size:=fh;have w5:(a:Int)<=(a:Int)+j+1:=fh;go_region_held3 (fun w'=>True) (trivial) (first | (go_at_call 117;refine(zgs _ _).mono ?_;rintro e w2 ⟨rfl,a1,d2,rfl⟩));go_wp2;go_ret3;exact us (q:=(0,0,M)) hQ.out gG
    ·have hQ:=fk (show iN s a=(0,0,M) from by
      rw[HS.out,<-HT.out,HFu.out,Bt];rw[WN,Wg]
      exact Nat.le_of_not_lt hlt)
     go_wp2_with(fail);go_ret3;exact us (q:=(0,0,M)) hQ.out gG
   ·have hje:j=6:=fh
    exact xS
def jg (c:Int):Nat × Bool:=
 if c=0 then (4,H)
 else if c=1∨c=2∨c=3∨c=4∨c=10∨c=11 then (2,H)
 else if c=16 then (2,M)
 else if c=12∨c=13∨c=14∨c=15 then (1,M)
 else (0,M)
theorem BG (c:Int):jg c=(4,H)∨jg c=(2,H)∨jg c=(2,M)∨jg c=(1,M)∨jg c=(0,M):=by
 unfold jg;split
 ·simp
 ·split
  ·simp
  ·split
   ·simp
   ·split <;> simp
theorem tB (c:Int):(jg c).1<=4:=by
 rcases BG c with h | h | h | h | h <;> rw[h] <;> decide
def zK (c:Int):Int:=if gE c 0 17=H then ((jg c).1:Int)+1 else 0
def kU (s:G)(a:Nat):Nat:=(s.data.toList[a]?.map UInt8.toNat).getD 0
theorem BC (h:a<s.size):kU s a=s[a].toNat:=by
 unfold kU;rw[Aq s a h];rfl
theorem FF (s:G)(a:Nat):kU s a<256:=by
 unfold kU;cases s.data.toList[a]? with
 | none=>simp
 | some b=>simpa using b.toNat_lt
def oQ (s:G)(a:Nat):Nat->Nat
 | 0=>0
 | k+1=>oQ s a k+kU s (a+k)*256 ^ k
theorem vg (s:G)(a:Nat):∀ k,oQ s a k<256 ^ k
 | 0=>by simp[oQ]
 | k+1=>by
  have h1:=vg s a k;have h2:=FF s (a+k);have h3:kU s (a+k)*256 ^ k<=255*256 ^ k:=Xf _ fh;have h4:(256:Nat) ^ (k+1)=256*256 ^ k:=by rw[Yw,YL]
  simp only[oQ];omega
def rL (w:Nat)(sg:Bool)(u:Nat):Int:=if sg=H/\2 ^ (8*w-1)<=u then (u:Int)-2 ^ (8*w) else u
structure vC where
 code:Int
 arg:Int
 n:Nat
 ok:Bool
def ku (s:G)(a:Int):vC:=
 if 0<=a/\a<s.size/\kU s a.toNat<=17/\a.toNat+1+(jg (kU s a.toNat:Nat)).1<=s.size then
  ⟨(kU s a.toNat:Nat),rL (jg (kU s a.toNat:Nat)).1 (jg (kU s a.toNat:Nat)).2 (oQ s (a.toNat+1) (jg (kU s a.toNat:Nat)).1),(jg (kU s a.toNat:Nat)).1+1,H⟩
 else ⟨0,0,0,M⟩
theorem At {a:Int} (h:¬ (0<=a/\a<s.size/\kU s a.toNat<=17/\a.toNat+1+(jg (kU s a.toNat:Nat)).1<=s.size)):ku s a=⟨0,0,0,M⟩:=Vo h
theorem CS {w:Nat} {sg:Bool} (h1:a<s.size)(h2:kU s a=c)(h3:c<=17)(h4:jg (c:Int)=(w,sg))(h5:a+1+w<=s.size):ku s (a:Int)=⟨c,rL w sg (oQ s (a+1) w),w+1,H⟩:=by
 unfold ku;rw[Vy,h2,h4,Vs ⟨fh,fh,h3,h5⟩]
theorem Au {a:Int} {r:vC} (h:ku s a=r)(hk:r.ok=H):0<=a/\1<=r.n/\r.n<=5/\a+r.n<=s.size/\0<=r.code/\r.code<=17:=by
 subst h;unfold ku at hk |-;split
 ·rename_i h
  have:=tB (kU s a.toNat:Nat);simp only;omega
 ·rename_i h
  rw[Vo h] at hk;cases hk
theorem IL {a:Int} {r:vC} (h:ku s a=r)(hk:r.ok=M):r=⟨0,0,0,M⟩:=by
 subst h;unfold ku at hk |-;split
 ·rename_i h
  rw[Vs h] at hk;cases hk
 ·rfl
theorem Tg (w:Nat)(sg:Bool)(u:Nat)(hw:w<=4)(hu:u<256 ^ w) : -2147483648<=rL w sg u/\rL w sg u<=4294967295:=by
 unfold rL;have h4:w=0∨w=1∨w=2∨w=3∨w=4:=fh;split
 ·rename_i h
  obtain⟨_,h⟩:=h;rcases h4 with rfl | rfl | rfl | rfl | rfl <;> simp at h hu |- <;> omega
 ·rcases h4 with rfl | rfl | rfl | rfl | rfl <;> simp at hu |- <;> omega
theorem Fl {a:Int} {r:vC} (h:ku s a=r) : -2147483648<=r.arg/\r.arg<=4294967295:=by
 subst h;unfold ku;split
 ·exact Tg _ _ _ (tB _) (vg _ _ _)
 ·simp
theorem Sz {a:Int} {r:vC} (h:ku s a=r):(r.code=1∨r.code=2∨r.code=3∨r.code=4∨r.code=10∨r.code=11->-32768<=r.arg/\r.arg<=32767)/\(r.code=16->0<=r.arg/\r.arg<=65535)/\(r.code=12∨r.code=13∨r.code=14∨r.code=15->0<=r.arg/\r.arg<=255):=by
 subst h;unfold ku;split
 ·simp only
  refine⟨fun hc=>?_,fun hc=>?_,fun hc=>?_⟩
  ·have e:jg (kU s a.toNat:Nat)=(2,H):=by
    unfold jg;rw[Vo (by omega),Vs hc]
   rw[e];have:=vg s (a.toNat+1) 2;simp only at this |-;unfold rL;split <;> simp at this |- <;> (try (rename_i hh;simp at hh)) <;> omega
  ·have e:jg (kU s a.toNat:Nat)=(2,M):=by
    unfold jg;rw[Vo (by omega),Vo (by omega),Vs hc]
   rw[e];have:=vg s (a.toNat+1) 2;simp[rL] at this |-;omega
  ·have e:jg (kU s a.toNat:Nat)=(1,M):=by
    unfold jg;rw[Vo (by omega),Vo (by omega),Vo (by omega),Vs hc]
   rw[e];have:=vg s (a.toNat+1) 1;simp[rL] at this |-;omega
 ·simp
def qV (s:G):Nat->Nat->Bool
 | 0,a=>decide (s.size<=a)
 | f+1,a=>if a<s.size then (if (ku s (a:Int)).ok=H then qV s f (a+(ku s (a:Int)).n) else M) else H
def mF (s:G)(a:Nat):Bool:=qV s (s.size-a) a
theorem Qk (s:G):∀(f a:Nat),s.size-a<=f->qV s f a=qV s (s.size-a) a:=by
 intro f;induction f with
 | zero=>intro a h;rw[show s.size-a=0 from fh]
 | succ f ih=>
  intro a h;by_cases ha:a<s.size
  ·obtain⟨k,hk⟩:∃ k,s.size-a=k+1:=⟨s.size-a-1,fh⟩
   rw[hk];simp only[qV,Vs ha];split
   ·rename_i hok
    have:=Au (s:=s) (a:=(a:Int)) rfl hok;rw[ih _ fh]
    have a1:∀ g,s.size-(a+(ku s (a:Int)).n)<=g->g<=f->qV s g (a+(ku s (a:Int)).n)=qV s (s.size-(a+(ku s (a:Int)).n)) (a+(ku s (a:Int)).n):=by
     intro g hg a0;by_cases e:g=f
     ·subst e;exact ih _ hg
     ·obtain⟨d,hd⟩:∃ d,g=(s.size-(a+(ku s (a:Int)).n))+d:=⟨_,(Nat.add_sub_cancel' hg).symm⟩
      clear a0 e;subst hd;generalize (a+(ku s (a:Int)).n)=b;clear ih h ha hk hok this hg
      suffices h:∀(m d b:Nat),s.size-b<=m->qV s (m+d) b=qV s m b by exact h _ d b (Vz _)
      intro m;induction m with
      | zero=>
       intro d b hb;cases d with
       | zero=>rfl
       | succ d=>simp only[VJ,qV];rw[Vo fh];simp;omega
      | succ m im=>
       intro d b hb;rw[Nat.add_right_comm];simp only[qV];split
       ·split
        ·rename_i h1 h2
         have:=Au (s:=s) (a:=(b:Int)) rfl h2;exact im _ _ fh
        ·rfl
       ·rfl
    exact(a1 k fh fh).symm
   ·rfl
  ·rw[show s.size-a=0 from fh]
   simp only[qV,Vo ha];simp;omega
theorem Hj (h:s.size<=a):mF s a=H:=by
 unfold mF;rw[show s.size-a=0 from fh];simp[qV,h]
theorem JS (h:a<s.size)(hk:(ku s (a:Int)).ok=M):mF s a=M:=by
 unfold mF;obtain⟨k,a0⟩:∃ k,s.size-a=k+1:=⟨s.size-a-1,fh⟩
 rw[a0];simp[qV,h,hk]
theorem EC (h:a<s.size)(hk:(ku s (a:Int)).ok=H):mF s a=mF s (a+(ku s (a:Int)).n):=by
 have:=Au (s:=s) (a:=(a:Int)) rfl hk;unfold mF;obtain⟨k,a0⟩:∃ k,s.size-a=k+1:=⟨s.size-a-1,fh⟩
 rw[a0];simp only[qV,Vs h,Vs hk];exact Qk _ _ _ fh
theorem zl3 (c:Int)(w:V):VK prog 172 #[C Z c] w fun e w'=>e=.returned (.tuple #[C Z ((jg c).1:Int),X (jg c).2])/\w=w':=by
 go_enter func172,ntmps172;go_wp2
 all_goals
  go_ret2
  refine⟨?_,rfl⟩
  simp_all [jg]
theorem zeD (c:Int)(w:V):VK prog 180 #[C Z c] w fun e w'=>e=.returned (.tuple #[C Z ((jg c).1:Int),X (jg c).2])/\w=w':=by
 go_enter func180,ntmps180;go_wp2
 all_goals
  go_ret2
  refine⟨?_,rfl⟩
  simp_all [jg]
theorem CJ (c:Int):zK c=if gE c 0 17=H then ((jg c).1:Int)+1 else 0:=rfl
theorem zmZ (c:Int)(w:V):VK prog 171 #[C Z c] w fun e w'=>e=.returned (C Z (zK c))/\w=w':=by
 have a0:=tB c;obtain⟨n,sg,hw⟩:∃ n sg,jg c=(n,sg):=⟨_,_,rfl⟩
 rw[hw] at a0;have HW:=fk hw;cases hb:gE c 0 17
 ·have HS:=fk (show zK c=0 from by simp[zK,hb])
  have HB:=fk hb;clear hb hw;go_enter func171,ntmps171;go_wp2_with(go_at_call 38;refine(lf _ _ _ _).mono ?_;rw[HB.out];rintro e w1 ⟨rfl,rfl⟩);go_ret;exact⟨nB HS.out.symm,rfl⟩
 ·have HS:=fk (show zK c=(n:Int)+1 from by simp[zK,hb,hw])
  have HB:=fk hb;clear hb hw;go_enter func171,ntmps171
  go_wp2_with(first
   | (go_at_call 38;refine(lf _ _ _ _).mono ?_;rw[HB.out];rintro e w1 ⟨rfl,rfl⟩)
   | (go_at_call 172;refine(zl3 _ _).mono ?_;rw[HW.out];rintro e w1 ⟨rfl,rfl⟩))
  go_ret;exact⟨nB HS.out.symm,rfl⟩
theorem zgV (c:Int)(w:V):VK prog 167 #[C Z c] w fun e w'=>e=.returned (C Z (zK c))/\w=w':=by
 have a0:=tB c;obtain⟨n,sg,hw⟩:∃ n sg,jg c=(n,sg):=⟨_,_,rfl⟩
 rw[hw] at a0;have HW:=fk hw;cases hb:gE c 0 17
 ·have HS:=fk (show zK c=0 from by simp[zK,hb])
  have HB:=fk hb;clear hb hw;go_enter func167,ntmps167;go_wp2_with(go_at_call 43;refine(iU _ _ _ _).mono ?_;rw[HB.out];rintro e w1 ⟨rfl,rfl⟩);go_ret;exact⟨nB HS.out.symm,rfl⟩
 ·have HS:=fk (show zK c=1+(n:Int) from by simp[zK,hb,hw,Int.add_comm])
  have HB:=fk hb;clear hb hw;go_enter func167,ntmps167
  go_wp2_with(first
   | (go_at_call 43;refine(iU _ _ _ _).mono ?_;rw[HB.out];rintro e w1 ⟨rfl,rfl⟩)
   | (go_at_call 180;refine(zeD _ _).mono ?_;rw[HW.out];rintro e w1 ⟨rfl,rfl⟩))
  go_ret;exact⟨nB HS.out.symm,rfl⟩
theorem mI {a:Value} {e:Wl} (h:W.heap[g]?=F (U #[a,b] e (0,0))) :
  Vg W ⟨g,0,I⟩=F a/\Vg W ⟨g,1,I⟩=F b/\VE W ⟨g,0,I⟩=M/\VE W ⟨g,1,I⟩=M/\g<W.heap.size:=by
 refine⟨?_,?_,by simp[VE,h],by simp[VE,h],(blt h)⟩
 all_goals
  rw[WC W g _ _ _ (0,0) h]
  rfl
theorem tM {p:Value} {e:Wl} (h:W.heap[g]?=F (U #[p,q] e (0,0)))(a b:Value) :
  ((W.setCell ⟨g,0,I⟩ a).setCell ⟨g,1,I⟩ b).heap[g]?=F (U #[a,b] e (0,0))/\fG [g] W ((W.setCell ⟨g,0,I⟩ a).setCell ⟨g,1,I⟩ b):=
 ⟨py (py h 0 a) 1 b,((fG.refl _ _).setCell (p:=⟨g,0,I⟩) gm a).setCell (p:=⟨g,1,I⟩) gm b⟩
theorem zj {S Y:V} {o:Obj} (h:S.heap[k]?=F o)(hG:fy S Y):Y.heap[k]?=F o:=
 (hG.block (blt h)).trans h
theorem DM {a c d:Value} {e:Wl} (h:W.heap[g]?=F (U #[a,b,c,d] e (0,0))) :
  Vg W ⟨g,0,I⟩=F a/\Vg W ⟨g,1,I⟩=F b/\Vg W ⟨g,2,I⟩=F c/\Vg W ⟨g,3,I⟩=F d/\(∀ j,VE W ⟨g,j,I⟩=M):=by
 refine⟨?_,?_,?_,?_,fun j=>by simp[VE,h]⟩
 all_goals
  rw[WC W g _ _ _ (0,0) h]
  rfl
theorem wj {p r s:Value} {e:Wl} (h:W.heap[g]?=F (U #[p,q,r,s] e (0,0)))(a b c d:Value) :
  ((((W.setCell ⟨g,0,I⟩ a).setCell ⟨g,1,I⟩ b).setCell ⟨g,2,I⟩ c).setCell ⟨g,3,I⟩ d).heap[g]?=F (U #[a,b,c,d] e (0,0))/\fG [g] W ((((W.setCell ⟨g,0,I⟩ a).setCell ⟨g,1,I⟩ b).setCell ⟨g,2,I⟩ c).setCell ⟨g,3,I⟩ d):=
 ⟨py (py (py (py h 0 a) 1 b) 2 c) 3 d,((((fG.refl _ _).setCell (p:=⟨g,0,I⟩) gm a).setCell (p:=⟨g,1,I⟩) gm b).setCell (p:=⟨g,2,I⟩) gm c).setCell (p:=⟨g,3,I⟩) gm d⟩
def DK (r:vC)(w:V)(e:Z9)(w':V):Prop:=e=.returned (.tuple #[.agg #[C Z r.code,C Z r.arg],C Z r.n,X r.ok])/\fy w w'
theorem rD {r q:vC} (h:r=q){w w':V}(hG:fy w w'):DK r w (.returned (.tuple #[.agg #[C Z q.code,C Z q.arg],C Z q.n,X q.ok])) w':=by
 subst h;exact⟨rfl,hG⟩
theorem tU {g:Prop} (f:g:=by
  rw[Int.pow_mul,show (2:Int) ^ 8=((256:Nat):Int) from gv]
  exact(Int.natCast_pow 256 j).symm):g:=f
theorem RB {b:Nat} (hb:b<256)(hj:j<4)(hm:m<256 ^ j):bits .or Z (m:Int) (Xr ((b:Int)*2 ^ (8*j)))=((m+b*256 ^ j:Nat):Int):=by
 have hp:256 ^ (j+1)<=4294967296:=by
  have h:=Yt (show 0<256 from fh) (show j+1<=4 from fh);exact h
 have a0:b*256 ^ j<=255*256 ^ j:=Xf _ fh;have hs:(256:Nat) ^ (j+1)=256*256 ^ j:=by rw[Yw,YL]
 have e0:(2:Int) ^ (8*j)=((256 ^ j:Nat):Int):=by
  exact tU
 have e1:((b:Int)*2 ^ (8*j))=((b*256 ^ j:Nat):Int):=by rw[e0,<-Int.natCast_mul]
 have e2:Xr ((b*256 ^ j:Nat):Int)=((b*256 ^ j:Nat):Int):=uq fh fh;rw[e1,e2,Ec,bits_join Z 62 gv CQ (8*j) _ _ fh (by rw[e0];norm_cast;exact Nat.mul_mod_left _ _) (by norm_cast;omega) fh (by rw[e0];exact_mod_cast hm) (by norm_cast;omega)];omega
theorem BW {p:Value} {e:Wl} (h:W.heap[g]?=F (U #[p,q] e (0,0)))(b:Value):(W.setCell ⟨g,1,I⟩ b).heap[g]?=F (U #[p,b] e (0,0))/\fG [g] W (W.setCell ⟨g,1,I⟩ b):=
 ⟨py h 1 b,(fG.refl _ _).setCell (p:=⟨g,1,I⟩) (by simp) b⟩
theorem Zr {g:Prop} (f:g:=by
  have hun:oQ s (a+1) j+s[a+1+j].toNat*256 ^ j=oQ s (a+1) (j+1):=by rw[oQ,hb]
  rw[hun] at hor
  have hul2:oQ s (a+1) j<4294967296:=Vn hul (Yt fh (show j<=4 from fh))
  obtain⟨u,hu⟩:∃ u,oQ s (a+1) j=u:=⟨_,rfl⟩
  obtain⟨v,hv⟩:∃ v,oQ s (a+1) (j+1)=v:=⟨_,rfl⟩
  rw[hu] at hor x1 hul2
  rw[hv] at hor
  have HV:=fk hv
  clear hul hun hb hu hv
  have hjn2:(j:Int)<(n:Int):=fh
  have w1:Vl Z ((a:Int)+1)=(a:Int)+1:=WI _ fh
  have w2:Vl Z ((a:Int)+1+j)=(a:Int)+1+j:=WI _ fh
  have w3:(0:Int)<=(a:Int)+1+j:=fh
  have w4:(a:Int)+1+j<s.size:=fh
  go_wp2_with(fail)
  go_region
  go_wp2_with(fail)
  have h2:=BW hx.out (C Z v)
  go_roundw
  exact⟨j+1,io,fh,fk (by rw[HV.out];exact h2.1),fk ((h2.2.block g fh gm).trans hr.out),fk ((h2.2.fH hG.out (fun b hb=>by simp at hb;omega)).drew)⟩
  exact iC):g:=f
theorem wK {g:Prop} (f:g:=by
  go_enter func130,ntmps130
  go_wp2_with(first
   | (go_at_call 38;refine(lf _ _ _ _).mono ?_;rw[HB.out];rintro e w1 ⟨rfl,rfl⟩)
   | (go_at_call 171;refine(zmZ _ _).mono ?_;rw[HZ.out];rintro e w1 ⟨rfl,rfl⟩))
  exact Vr (v:=.tuple #[.agg #[C Z 0,C Z 0],C Z 0,X M]) (by simp[VF,results130,go_sem]) rfl (rD (q:=⟨0,0,0,M⟩) HD.out gG)):g:=f
theorem xH {g:Prop} (f:g:=by
  have h:=Vj (w.alloc (U #[C Z 0,C Z 0] 142)) (U #[C Z (s[a].toNat:Int),C Z 0] 142)
  rw[VH] at h
  exact h):g:=f
theorem zmi (s:G)(a:Int)(w:V)(hs:s.size<=1099511627776)(ha:fQ a):VK prog 130 #[Q s,C Z a] w (DK (ku s a) w):=by
 obtain⟨ag,ah⟩:=ha;cases hb:gE a 0 ((s.size:Int)-1)
 ·have HD:=fk (At (s:=s) (a:=a) (fun h=>by rw[pU fh fh] at hb;cases hb))
  have HB:=fk hb;clear hb;go_enter func130,ntmps130;go_wp2_with(go_at_call 38;refine(lf _ _ _ _).mono ?_;rw[HB.out];rintro e w1 ⟨rfl,rfl⟩);exact Vr (v:=.tuple #[.agg #[C Z 0,C Z 0],C Z 0,X M]) (by simp[VF,results130,go_sem]) rfl (rD (q:=⟨0,0,0,M⟩) HD.out gG)
 ·obtain⟨ac,ad⟩:=zr.1 hb
  have HB:=fk hb;clear hb;obtain⟨a,rfl⟩:=VI ac;have ab:a<s.size:=fh;have a1:=BC ab;obtain⟨c,hc⟩:∃ c,kU s a=c:=⟨_,rfl⟩
  have a8:c<256:=hc ▸ FF s a;rw[hc] at a1;have aj:0<=(s[a].toNat:Int)/\(s[a].toNat:Int)<=255:=fh;by_cases hc17:c<=17
  case neg=>
   have HD:=fk (At (s:=s) (a:=(a:Int)) (fun h=>by rw[Vy,hc] at h;exact hc17 h.2.2.1));have HZ:=fk (show zK (s[a].toNat:Int)=0 from by rw[<-a1,CJ,Vo (by simp[gE];omega)]);exact wK
  obtain⟨n,sg,hw⟩:∃ n sg,jg (c:Int)=(n,sg):=⟨_,_,rfl⟩
  have a3:=BG (c:Int);rw[hw] at a3;have ai:n<=4:=by have:=tB (c:Int);rw[hw] at this;exact this
  have HZ:=fk (show zK (s[a].toNat:Int)=(n:Int)+1 from by rw[<-a1,CJ,Vs (pU fh fh),hw]);have HW:=fk (show jg (s[a].toNat:Int)=(n,sg) from by rw[<-a1];exact hw);by_cases hfit:a+1+n<=s.size
  case neg=>
   have HD:=fk (At (s:=s) (a:=(a:Int)) (fun h=>by rw[Vy,hc,hw] at h;exact hfit h.2.2.2));have a9:((n:Int)+1 == 0)=M:=by simp;omega
   have aa:decide ((s.size:Int)<(a:Int)+((n:Int)+1))=H:=Vv fh;clear hw hc a1;exact wK
  have HD:=fk (CS ab hc hc17 hw hfit);have a9:((n:Int)+1 == 0)=M:=by simp;omega
  have aa:decide ((s.size:Int)<(a:Int)+((n:Int)+1))=M:=Vp fh;clear hw hc;go_enter func130,ntmps130
  go_wp2_with(first
   | (go_at_call 38;refine(lf _ _ _ _).mono ?_;rw[HB.out];rintro e w1 ⟨rfl,rfl⟩)
   | (go_at_call 171;refine(zmZ _ _).mono ?_;rw[HZ.out];rintro e w1 ⟨rfl,rfl⟩)
   | (go_at_call 172;refine(zl3 _ _).mono ?_;rw[HW.out];rintro e w1 ⟨rfl,rfl⟩))
  have hG:fy w ((w.alloc (U #[C Z 0,C Z 0] 142)).alloc (U #[C Z (s[a].toNat:Int),C Z 0] 142)):=gG;have er:((w.alloc (U #[C Z 0,C Z 0] 142)).alloc (U #[C Z (s[a].toNat:Int),C Z 0] 142)).heap[w.heap.size]?=F (U #[C Z 0,C Z 0] 142 (0,0)):=zj (Vj w _) gF
  have ex:((w.alloc (U #[C Z 0,C Z 0] 142)).alloc (U #[C Z (s[a].toNat:Int),C Z 0] 142)).heap[w.heap.size+1]?=F (U #[C Z (s[a].toNat:Int),C Z 0] 142 (0,0)):=by
   exact xH
  obtain⟨g,hg⟩:∃ g,w.heap.size=g:=⟨_,rfl⟩
  rw[hg] at er ex |-;generalize ((w.alloc _).alloc _)=Y at hG er ex |-;go_loopw [11] (fun x wr=>∃(j:Nat),x=C Z j/\j<=n/\Hid (wr.heap[g+1]?=F (U #[C Z (s[a].toNat:Int),C Z (oQ s (a+1) j:Nat)] 142 (0,0)))/\Hid (wr.heap[g]?=F (U #[C Z 0,C Z 0] 142 (0,0)))/\Hid (fy w wr)) (fun x _=>n-(Wj x).toNat)
  case atStart=>exact⟨0,rfl,fh,fk ex,fk er,fk hG⟩
  case round=>
   clear hG er ex;obtain⟨j,rfl,hj,hx,hr,hG⟩:=hrel;obtain⟨x0,x1,am,an,xl⟩:=mI hx.out;by_cases hjn:j<n
   ·have ae:a+1+j<s.size:=fh
    have hb:=BC ae;have ad:0<=(s[a+1+j].toNat:Int)/\(s[a+1+j].toNat:Int)<=255:=by have:=s[a+1+j].toNat_lt;omega
    have hul:=vg s (a+1) j;have hor:=RB (m:=oQ s (a+1) j) (j:=j) (b:=s[a+1+j].toNat) fh fh hul;exact Zr
   ·obtain rfl:j=n:=fh
    have hul:=vg s (a+1) j;obtain⟨u,hu⟩:∃ u,oQ s (a+1) j=u:=⟨_,rfl⟩
    rw[hu] at hul x1 HD;have h0:=hr.out;have a7:=hx.out;rw[hu] at a7;clear hx hr;obtain⟨r0,r1,ak,al,rl⟩:=mI h0;have a0:(sg=H/\2 ^ (8*j-1)<=u)∨¬ (sg=H/\2 ^ (8*j-1)<=u):=Classical.em _;clear hu HB HZ HW hfit a9 aa;rcases a0 with a0 | a0
    ·have a4:ku s (a:Int)=⟨(c:Int),(u:Int)-2 ^ (8*j),j+1,H⟩:=by rw[HD.out];unfold rL;rw[Vs a0]
     have HQ:=fk a4;obtain⟨rfl,a0⟩:=a0;clear a4 HD;simp only[Xd,YE,XR,and_false,Xy,false_or] at a3;rcases a3 with rfl | rfl
     ·skip
      have a5:(2147483648:Int)<=(u:Int):=by simp at a0;omega
      have a6:(u:Int)<4294967296:=by simp at hul;omega
      have af:Vl Z ((u:Int)-4294967296)=(u:Int)-4294967296:=iw;clear hul a0;go_wp2_with(fail);go_region;go_wp2_with(fail);go_region;go_wp2_with(fail);have hk:=BW a7 (C Z ((u:Int)-4294967296));have h1:=(hk.2.block g fh gm).trans h0;have h2:=tM h1 (C Z (s[a].toNat:Int)) (C Z ((u:Int)-4294967296));have hz:=mI h2.1;refine Vr (v:=.tuple #[.agg #[C Z (s[a].toNat:Int),C Z ((u:Int)-4294967296)],C Z ((4+1:Nat):Int),X H]) (by simp[VF,results130,go_sem,hz,rl]) rfl ?_;exact rD (q:=⟨(s[a].toNat:Int),(u:Int)-4294967296,4+1,H⟩) (by rw[HQ.out,a1];try rfl) ((h2.2.fH (hk.2.fH hG.out (fun b hb=>by simp at hb;omega)) (fun b hb=>by simp at hb;omega)).trans gF)
     ·skip
      have a5:(32768:Int)<=(u:Int):=by simp at a0;omega
      have a6:(u:Int)<65536:=by simp at hul;omega
      have af:Vl Z ((u:Int)-65536)=(u:Int)-65536:=iw;clear hul a0;go_wp2_with(fail);go_region;go_wp2_with(fail);go_region;go_wp2_with(fail);have hk:=BW a7 (C Z ((u:Int)-65536));have h1:=(hk.2.block g fh gm).trans h0;have h2:=tM h1 (C Z (s[a].toNat:Int)) (C Z ((u:Int)-65536));have hz:=mI h2.1;refine Vr (v:=.tuple #[.agg #[C Z (s[a].toNat:Int),C Z ((u:Int)-65536)],C Z ((2+1:Nat):Int),X H]) (by simp[VF,results130,go_sem,hz,rl]) rfl ?_;exact rD (q:=⟨(s[a].toNat:Int),(u:Int)-65536,2+1,H⟩) (by rw[HQ.out,a1];try rfl) ((h2.2.fH (hk.2.fH hG.out (fun b hb=>by simp at hb;omega)) (fun b hb=>by simp at hb;omega)).trans gF)
    ·have a4:ku s (a:Int)=⟨(c:Int),(u:Int),j+1,H⟩:=by rw[HD.out];unfold rL;rw[Vo a0]
     have HQ:=fk a4;clear a4 HD;cases sg with
     | false=>
      clear a0 a3 hul;go_wp2_with(fail);go_region;go_wp2_with(fail);have h2:=tM h0 (C Z (s[a].toNat:Int)) (C Z ((u:Int)));have hz:=mI h2.1;refine Vr (v:=.tuple #[.agg #[C Z (s[a].toNat:Int),C Z ((u:Int))],C Z ((j+1:Nat):Int),X H]) (by simp[VF,results130,go_sem,hz,rl]) rfl ?_;exact rD (q:=⟨(s[a].toNat:Int),(u:Int),j+1,H⟩) (by rw[HQ.out,a1];try rfl) ((h2.2.fH hG.out (fun b hb=>by simp at hb;omega)).trans gF)
     | true=>
      have a2:¬ 2 ^ (8*j-1)<=u:=fun h=>a0 ⟨rfl,h⟩;simp only[Xd,YE,XR,and_false,Xy,false_or] at a3;rcases a3 with rfl | rfl
      ·have a5:decide ((2147483648:Int)<=(u:Int))=M:=Vp (by simp at a2;omega)
       clear a0 a2 hul;go_wp2_with(fail);go_region;go_wp2_with(fail);have h2:=tM h0 (C Z (s[a].toNat:Int)) (C Z ((u:Int)));have hz:=mI h2.1;refine Vr (v:=.tuple #[.agg #[C Z (s[a].toNat:Int),C Z ((u:Int))],C Z ((4+1:Nat):Int),X H]) (by simp[VF,results130,go_sem,hz,rl]) rfl ?_;exact rD (q:=⟨(s[a].toNat:Int),(u:Int),4+1,H⟩) (by rw[HQ.out,a1];try rfl) ((h2.2.fH hG.out (fun b hb=>by simp at hb;omega)).trans gF)
      ·have a5:decide ((32768:Int)<=(u:Int))=M:=Vp (by simp at a2;omega)
       clear a0 a2 hul;go_wp2_with(fail);go_region;go_wp2_with(fail);have h2:=tM h0 (C Z (s[a].toNat:Int)) (C Z ((u:Int)));have hz:=mI h2.1;refine Vr (v:=.tuple #[.agg #[C Z (s[a].toNat:Int),C Z ((u:Int))],C Z ((2+1:Nat):Int),X H]) (by simp[VF,results130,go_sem,hz,rl]) rfl ?_;exact rD (q:=⟨(s[a].toNat:Int),(u:Int),2+1,H⟩) (by rw[HQ.out,a1];try rfl) ((h2.2.fH hG.out (fun b hb=>by simp at hb;omega)).trans gF)
theorem Qv {b:Nat} (hb:b<256)(hj:j<4)(hm:m<256 ^ j):Vl Z ((m:Int)+Xr ((b:Int)*2 ^ (8*j)))=((m+b*256 ^ j:Nat):Int):=by
 have hp:256 ^ (j+1)<=4294967296:=by
  have h:=Yt (show 0<256 from fh) (show j+1<=4 from fh);exact h
 have a0:b*256 ^ j<=255*256 ^ j:=Xf _ fh;have hs:(256:Nat) ^ (j+1)=256*256 ^ j:=by rw[Yw,YL]
 have e0:(2:Int) ^ (8*j)=((256 ^ j:Nat):Int):=by
  exact tU
 have e1:((b:Int)*2 ^ (8*j))=((b*256 ^ j:Nat):Int):=by rw[e0,<-Int.natCast_mul]
 rw[e1,uq fh fh,<-Int.natCast_add];exact iw
theorem wL {g:Prop} (f:g:=by
  go_enter func135,ntmps135
  go_wp2_with(first
   | (go_at_call 167;refine(zgV _ _).mono ?_;rw[HZ.out];rintro e w1 ⟨rfl,rfl⟩)
   | (go_at_call 180;refine(zeD _ _).mono ?_;rw[HW.out];rintro e w1 ⟨rfl,rfl⟩))
  exact Vr (v:=.tuple #[.agg #[C Z 0,C Z 0],C Z 0,X M]) (by simp[VF,results135,go_sem]) rfl (rD (q:=⟨0,0,0,M⟩) HD.out gG)):g:=f
theorem xo {g:Prop} (f:g:=by
  go_enter func135,ntmps135
  go_wp2_with(fail)
  exact Vr (v:=.tuple #[.agg #[C Z 0,C Z 0],C Z 0,X M]) (by simp[VF,results135,go_sem]) rfl (rD (q:=⟨0,0,0,M⟩) HD.out gG)):g:=f
theorem zi1 (s:G)(a:Int)(w:V)(hs:s.size<=1099511627776)(ha:fQ a):VK prog 135 #[Q s,C Z a] w (DK (ku s a) w):=by
 obtain⟨ai,aj⟩:=ha;cases hb:gE a 0 ((s.size:Int)-1)
 ·have HD:=fk (At (s:=s) (a:=a) (fun h=>by rw[pU fh fh] at hb;cases hb))
  have a6:a<0∨(0<=a/\(s.size:Int)<=a):=by
   rcases Int.lt_or_le a 0 with h | h
   ·exact .inl h
   ·refine .inr ⟨h,?_⟩
    have:¬ a<=(s.size:Int)-1:=fun h2=>by rw[pU h h2] at hb;cases hb
    omega
  clear hb;rcases a6 with h | ⟨h,h'⟩
  ·have q0:decide (a<0)=H:=Vv h
   exact xo
  ·have q0:decide (a<0)=M:=Vp fh
   have q1:decide ((s.size:Int)<=a)=H:=Vv h';exact xo
 ·obtain⟨ad,ae⟩:=zr.1 hb
  clear hb;obtain⟨a,rfl⟩:=VI ad;have q0:decide ((a:Int)<0)=M:=Vp fh;have q1:decide ((s.size:Int)<=(a:Int))=M:=Vp fh;have ac:a<s.size:=fh;have a1:=BC ac;obtain⟨c,hc⟩:∃ c,kU s a=c:=⟨_,rfl⟩
  have a9:c<256:=hc ▸ FF s a;rw[hc] at a1;have ak:0<=(s[a].toNat:Int)/\(s[a].toNat:Int)<=255:=fh;by_cases hc17:c<=17
  case neg=>
   have HD:=fk (At (s:=s) (a:=(a:Int)) (fun h=>by rw[Vy,hc] at h;exact hc17 h.2.2.1));have HZ:=fk (show zK (s[a].toNat:Int)=0 from by rw[<-a1,CJ,Vo (by simp[gE];omega)]);obtain⟨n,sg,hw⟩:∃ n sg,jg (s[a].toNat:Int)=(n,sg):=⟨_,_,rfl⟩
   have ag:n<=4:=by have:=tB (s[a].toNat:Int);rw[hw] at this;exact this
   have HW:=fk hw;clear hw;exact wL
  obtain⟨n,sg,hw⟩:∃ n sg,jg (c:Int)=(n,sg):=⟨_,_,rfl⟩
  have a3:=BG (c:Int);rw[hw] at a3;have ag:n<=4:=by have:=tB (c:Int);rw[hw] at this;exact this
  have HZ:=fk (show zK (s[a].toNat:Int)=(n:Int)+1 from by rw[<-a1,CJ,Vs (pU fh fh),hw]);have HW:=fk (show jg (s[a].toNat:Int)=(n,sg) from by rw[<-a1];exact hw);by_cases hfit:a+1+n<=s.size
  case neg=>
   have HD:=fk (At (s:=s) (a:=(a:Int)) (fun h=>by rw[Vy,hc,hw] at h;exact hfit h.2.2.2));have aa:((n:Int)+1 == 0)=M:=by simp;omega
   have ab:decide ((s.size:Int)<(a:Int)+1+(n:Int))=H:=Vv fh;clear hw hc a1;exact wL
  have HD:=fk (CS ac hc hc17 hw hfit);have aa:((n:Int)+1 == 0)=M:=by simp;omega
  have ab:decide ((s.size:Int)<(a:Int)+1+(n:Int))=M:=Vp fh;clear hw hc;go_enter func135,ntmps135
  go_wp2_with(first
   | (go_at_call 167;refine(zgV _ _).mono ?_;rw[HZ.out];rintro e w1 ⟨rfl,rfl⟩)
   | (go_at_call 180;refine(zeD _ _).mono ?_;rw[HW.out];rintro e w1 ⟨rfl,rfl⟩))
  have hG:fy w ((w.alloc (U #[C Z 0,C Z 0] 142)).alloc (U #[C Z (s[a].toNat:Int),C Z 0] 142)):=gG;have er:((w.alloc (U #[C Z 0,C Z 0] 142)).alloc (U #[C Z (s[a].toNat:Int),C Z 0] 142)).heap[w.heap.size]?=F (U #[C Z 0,C Z 0] 142 (0,0)):=zj (Vj w _) gF
  have ex:((w.alloc (U #[C Z 0,C Z 0] 142)).alloc (U #[C Z (s[a].toNat:Int),C Z 0] 142)).heap[w.heap.size+1]?=F (U #[C Z (s[a].toNat:Int),C Z 0] 142 (0,0)):=by
   exact xH
  obtain⟨g,hg⟩:∃ g,w.heap.size=g:=⟨_,rfl⟩
  rw[hg] at er ex |-;generalize ((w.alloc _).alloc _)=Y at hG er ex |-;go_loopw [10] (fun x wr=>∃(j:Nat),x=C Z j/\j<=n/\Hid (wr.heap[g+1]?=F (U #[C Z (s[a].toNat:Int),C Z (oQ s (a+1) j:Nat)] 142 (0,0)))/\Hid (wr.heap[g]?=F (U #[C Z 0,C Z 0] 142 (0,0)))/\Hid (fy w wr)) (fun x _=>n-(Wj x).toNat)
  case atStart=>exact⟨0,rfl,fh,fk ex,fk er,fk hG⟩
  case round=>
   clear hG er ex;obtain⟨j,rfl,hj,hx,hr,hG⟩:=hrel;obtain⟨x0,x1,an,ao,xl⟩:=mI hx.out;by_cases hjn:j<n
   ·have af:a+1+j<s.size:=fh
    have hb:=BC af;have ae:0<=(s[a+1+j].toNat:Int)/\(s[a+1+j].toNat:Int)<=255:=by have:=s[a+1+j].toNat_lt;omega
    have hul:=vg s (a+1) j;have hor:=Qv (m:=oQ s (a+1) j) (j:=j) (b:=s[a+1+j].toNat) fh fh hul;exact Zr
   ·obtain rfl:j=n:=fh
    have hul:=vg s (a+1) j;obtain⟨u,hu⟩:∃ u,oQ s (a+1) j=u:=⟨_,rfl⟩
    rw[hu] at hul x1 HD;have h0:=hr.out;have a8:=hx.out;rw[hu] at a8;clear hx hr;obtain⟨r0,r1,al,am,rl⟩:=mI h0;have a0:(sg=H/\2 ^ (8*j-1)<=u)∨¬ (sg=H/\2 ^ (8*j-1)<=u):=Classical.em _;clear hu HZ HW hfit aa ab;rcases a0 with a0 | a0
    ·have a4:ku s (a:Int)=⟨(c:Int),(u:Int)-2 ^ (8*j),j+1,H⟩:=by rw[HD.out];unfold rL;rw[Vs a0]
     have HQ:=fk a4;obtain⟨rfl,a0⟩:=a0;clear a4 HD;simp only[Xd,YE,XR,and_false,Xy,false_or] at a3;rcases a3 with rfl | rfl
     ·skip
      have a5:(2147483648:Int)<=(u:Int):=by simp at a0;omega
      have a7:(u:Int)<4294967296:=by simp at hul;omega
      have ah:Vl Z ((u:Int)-4294967296)=(u:Int)-4294967296:=iw;clear hul a0;go_wp2_with(fail);go_region;go_wp2_with(fail);go_region;go_wp2_with(fail);have hk:=BW a8 (C Z ((u:Int)-4294967296));have h1:=(hk.2.block g fh gm).trans h0;have h2:=tM h1 (C Z (s[a].toNat:Int)) (C Z ((u:Int)-4294967296));have hz:=mI h2.1;refine Vr (v:=.tuple #[.agg #[C Z (s[a].toNat:Int),C Z ((u:Int)-4294967296)],C Z ((1+4:Nat):Int),X H]) (by simp[VF,results135,go_sem,hz,rl]) rfl ?_;exact rD (q:=⟨(s[a].toNat:Int),(u:Int)-4294967296,1+4,H⟩) (by rw[HQ.out,a1];try (first | rfl | rw[Yk])) ((h2.2.fH (hk.2.fH hG.out (fun b hb=>by simp at hb;omega)) (fun b hb=>by simp at hb;omega)).trans gF)
     ·skip
      have a5:(32768:Int)<=(u:Int):=by simp at a0;omega
      have a7:(u:Int)<65536:=by simp at hul;omega
      have ah:Vl Z ((u:Int)-65536)=(u:Int)-65536:=iw;clear hul a0;go_wp2_with(fail);go_region;go_wp2_with(fail);go_region;go_wp2_with(fail);have hk:=BW a8 (C Z ((u:Int)-65536));have h1:=(hk.2.block g fh gm).trans h0;have h2:=tM h1 (C Z (s[a].toNat:Int)) (C Z ((u:Int)-65536));have hz:=mI h2.1;refine Vr (v:=.tuple #[.agg #[C Z (s[a].toNat:Int),C Z ((u:Int)-65536)],C Z ((1+2:Nat):Int),X H]) (by simp[VF,results135,go_sem,hz,rl]) rfl ?_;exact rD (q:=⟨(s[a].toNat:Int),(u:Int)-65536,1+2,H⟩) (by rw[HQ.out,a1];try (first | rfl | rw[Yk])) ((h2.2.fH (hk.2.fH hG.out (fun b hb=>by simp at hb;omega)) (fun b hb=>by simp at hb;omega)).trans gF)
    ·have a4:ku s (a:Int)=⟨(c:Int),(u:Int),j+1,H⟩:=by rw[HD.out];unfold rL;rw[Vo a0]
     have HQ:=fk a4;clear a4 HD;cases sg with
     | false=>
      clear a0 a3 hul;go_wp2_with(fail);go_region;go_wp2_with(fail);have h2:=tM h0 (C Z (s[a].toNat:Int)) (C Z ((u:Int)));have hz:=mI h2.1;refine Vr (v:=.tuple #[.agg #[C Z (s[a].toNat:Int),C Z ((u:Int))],C Z ((1+j:Nat):Int),X H]) (by simp[VF,results135,go_sem,hz,rl]) rfl ?_;exact rD (q:=⟨(s[a].toNat:Int),(u:Int),1+j,H⟩) (by rw[HQ.out,a1];try (first | rfl | rw[Yk])) ((h2.2.fH hG.out (fun b hb=>by simp at hb;omega)).trans gF)
     | true=>
      have a2:¬ 2 ^ (8*j-1)<=u:=fun h=>a0 ⟨rfl,h⟩;simp only[Xd,YE,XR,and_false,Xy,false_or] at a3;rcases a3 with rfl | rfl
      ·have a5:decide ((2147483648:Int)<=(u:Int))=M:=Vp (by simp at a2;omega)
       clear a0 a2 hul;go_wp2_with(fail);go_region;go_wp2_with(fail);have h2:=tM h0 (C Z (s[a].toNat:Int)) (C Z ((u:Int)));have hz:=mI h2.1;refine Vr (v:=.tuple #[.agg #[C Z (s[a].toNat:Int),C Z ((u:Int))],C Z ((1+4:Nat):Int),X H]) (by simp[VF,results135,go_sem,hz,rl]) rfl ?_;exact rD (q:=⟨(s[a].toNat:Int),(u:Int),1+4,H⟩) (by rw[HQ.out,a1];try (first | rfl | rw[Yk])) ((h2.2.fH hG.out (fun b hb=>by simp at hb;omega)).trans gF)
      ·have a5:decide ((32768:Int)<=(u:Int))=M:=Vp (by simp at a2;omega)
       clear a0 a2 hul;go_wp2_with(fail);go_region;go_wp2_with(fail);have h2:=tM h0 (C Z (s[a].toNat:Int)) (C Z ((u:Int)));have hz:=mI h2.1;refine Vr (v:=.tuple #[.agg #[C Z (s[a].toNat:Int),C Z ((u:Int))],C Z ((1+2:Nat):Int),X H]) (by simp[VF,results135,go_sem,hz,rl]) rfl ?_;exact rD (q:=⟨(s[a].toNat:Int),(u:Int),1+2,H⟩) (by rw[HQ.out,a1];try (first | rfl | rw[Yk])) ((h2.2.fH hG.out (fun b hb=>by simp at hb;omega)).trans gF)
def LP (b:Bool)(w:V)(e:Z9)(w':V):Prop:=∃ A n c,e=.returned (.tuple #[J A n c,X b])/\fy w w'
theorem wP {g:Prop} (f:g:=by
  go_roundw
  case measure=>exact iC
  case rel=>
   refine⟨a+n,l++[⟨co,ar⟩],A7,c7,S7,by rw[Vk];rfl,io,fh,by rw[Vk,Wi];omega,by rw[Vk];exact hH7,fun b hb=>?_,HST,fk (hon.fH (hG.out.trans gF) hS)⟩
   rcases hS7 b hb with h | h
   ·exact hS b h
   ·have:=hG.out.size
    simp at h
    omega):g:=f
theorem xP {g:Prop} (f:g:=by
  have HQ:=fk (show mF s 0=H from by rw[<-hd.out];exact Hj (Vz _))
  go_wp2_with(fail)
  go_ret2
  exact⟨_,_,_,by rw[HQ.out];rfl,hG.out⟩):g:=f
theorem zyX (s:G)(w:V)(hs:s.size<=1099511627776):VK prog 144 #[Q s] w (LP (mF s 0) w):=by
 go_enter func144,ntmps144;go_wp2_with(fail);have en:=Vj w (U #[] 142);go_loopw [4,5] (fun x y wr=>∃(a:Nat) (l:D mT) (A:N VQ) (c:Nat) (S:D Nat),x=J A l.length c/\y=C Z a/\a<=s.size/\l.length<=a/\Has (um.sl 142) wr [J A l.length c] l S/\(∀ b∈S,w.heap.size<=b)/\Hid (mF s a=mF s 0)/\Hid (fy w wr)) (fun _ y _=>s.size-(Wj y).toNat)
 case atStart=>exact⟨0,[],_,0,[w.heap.size],rfl,rfl,Vu _,Vz _,Has.iK um en,gm,fk rfl,fk gG⟩
 case round=>
  clear en;obtain⟨a,l,A,c,S,rfl,rfl,ha,hl,hH,hS,hd,hG⟩:=hrel;by_cases hlt:a<s.size
  ·have a0:fQ (a:Int):=⟨fh,fh⟩
   obtain⟨r,hr⟩:∃ r,ku s (a:Int)=r:=⟨_,rfl⟩
   have hk:=Au hr;have a1:=Fl hr;cases hrk:r.ok with
   | false=>
    have HQ:=fk (show mF s 0=M from by rw[<-hd.out];exact JS hlt (by rw[hr];exact hrk));have hz:=IL hr hrk;subst hz;have HR:=fk hr;clear hr hrk hk;go_wp2_with(go_at_call 130;refine(zmi s (a:Int) _ hs a0).mono ?_;rw[HR.out];rintro e w4 ⟨rfl,a3,d4,rfl⟩);go_ret2;exact⟨_,_,_,by rw[HQ.out];rfl,hG.out.trans gF⟩
   | true=>
    obtain⟨k0,k1,k2,k3,k4,k5⟩:=hk hrk;obtain⟨co,ar,n,a4⟩:=r;simp only at hrk k0 k1 k2 k3 k4 k5 a1;subst hrk;have HST:=fk (show mF s (a+n)=mF s 0 from by rw[<-hd.out,EC hlt (by rw[hr]),hr]);have HR:=fk hr;clear hr hk;have a2:um.R w 0 [C Z co,C Z ar] ⟨co,ar⟩:=LA (x:=⟨co,ar⟩) ⟨by simp only;omega,by simp only;omega⟩ ⟨by simp only;omega,by simp only;omega⟩
    go_wp2_with(first
     | (go_at_call 130;refine(zmi s (a:Int) _ hs a0).mono ?_;rw[HR.out];rintro e w4 ⟨rfl,a3,d4,rfl⟩)
     | (refine zG (L:=l.length+1) (y:=(⟨co,ar⟩:mT)) rfl (.tmp 23) (.tmp 25) Ml LL (S:=S) (hH.fH gF) (ec:=[C Z co,C Z ar]) (W1:=w) (B:=0) a2 rfl rfl rfl (by intro j u hu;simpa[go_sem] using hu) rfl fh fh ?_;intro A7 c7 W7 S7 hon hH7 hS7))
    exact wP
  ·obtain rfl:a=s.size:=fh
   exact xP
theorem zyY (s:G)(w:V)(hs:s.size<=1099511627776):VK prog 134 #[Q s] w (LP (mF s 0) w):=by
 go_enter func134,ntmps134;go_wp2_with(fail);have en:=Vj w (U #[] 142);go_loopw [4,5] (fun x y wr=>∃(a:Nat) (l:D mT) (A:N VQ) (c:Nat) (S:D Nat),x=J A l.length c/\y=C Z a/\a<=s.size/\l.length<=a/\Has (um.sl 142) wr [J A l.length c] l S/\(∀ b∈S,w.heap.size<=b)/\Hid (mF s a=mF s 0)/\Hid (fy w wr)) (fun _ y _=>s.size-(Wj y).toNat)
 case atStart=>exact⟨0,[],_,0,[w.heap.size],rfl,rfl,Vu _,Vz _,Has.iK um en,gm,fk rfl,fk gG⟩
 case round=>
  clear en;obtain⟨a,l,A,c,S,rfl,rfl,ha,hl,hH,hS,hd,hG⟩:=hrel;by_cases hlt:a<s.size
  ·have a0:fQ (a:Int):=⟨fh,fh⟩
   obtain⟨r,hr⟩:∃ r,ku s (a:Int)=r:=⟨_,rfl⟩
   have hk:=Au hr;have a1:=Fl hr;cases hrk:r.ok with
   | false=>
    have HQ:=fk (show mF s 0=M from by rw[<-hd.out];exact JS hlt (by rw[hr];exact hrk));have hz:=IL hr hrk;subst hz;have HR:=fk hr;clear hr hrk hk;go_wp2_with(go_at_call 135;refine(zi1 s (a:Int) _ hs a0).mono ?_;rw[HR.out];rintro e w4 ⟨rfl,a3,d4,rfl⟩);go_ret2;exact⟨_,_,_,by rw[HQ.out];rfl,hG.out.trans gF⟩
   | true=>
    obtain⟨k0,k1,k2,k3,k4,k5⟩:=hk hrk;obtain⟨co,ar,n,a4⟩:=r;simp only at hrk k0 k1 k2 k3 k4 k5 a1;subst hrk;have HST:=fk (show mF s (a+n)=mF s 0 from by rw[<-hd.out,EC hlt (by rw[hr]),hr]);have HR:=fk hr;clear hr hk;have a2:um.R w 0 [C Z co,C Z ar] ⟨co,ar⟩:=LA (x:=⟨co,ar⟩) ⟨by simp only;omega,by simp only;omega⟩ ⟨by simp only;omega,by simp only;omega⟩
    go_wp2_with(first
     | (go_at_call 135;refine(zi1 s (a:Int) _ hs a0).mono ?_;rw[HR.out];rintro e w4 ⟨rfl,a3,d4,rfl⟩)
     | (refine zG (L:=l.length+1) (y:=(⟨co,ar⟩:mT)) rfl (.tmp 24) (.tmp 26) Ml LL (S:=S) (hH.fH gF) (ec:=[C Z co,C Z ar]) (W1:=w) (B:=0) a2 rfl rfl rfl (by intro j u hu;simpa[go_sem] using hu) rfl fh fh ?_;intro A7 c7 W7 S7 hon hH7 hS7))
    exact wP
  ·obtain rfl:a=s.size:=fh
   exact xP
structure fR where
 fJ:G
 fA:Int
 iG:Int
 deriving DecidableEq
def kr:Ty fR:=(jB.prod (zv.prod zv)).via fun x=>(x.fJ,x.fA,x.iG)
theorem QG {x:fR} (h:kr.R w B cs x):cs = [Q x.fJ,C Z x.fA,C Z x.iG]/\x.fJ.size<=9223372036854775807/\fQ x.fA/\fQ x.iG:=by
 obtain⟨_,_,rfl,⟨rfl,a2⟩,⟨_,_,rfl,⟨rfl,a0,a1⟩,⟨rfl,a3,a4⟩⟩⟩:=h;exact⟨rfl,a2,⟨a0,a1⟩,⟨a3,a4⟩⟩
theorem Io {x:fR} (h0:x.fJ.size<=9223372036854775807)(h1:fQ x.fA)(h2:fQ x.iG):kr.R w B [Q x.fJ,C Z x.fA,C Z x.iG] x:=by
 exact⟨[Q x.fJ],[C Z x.fA,C Z x.iG],rfl,⟨rfl,h0⟩,⟨[C Z x.fA],[C Z x.iG],rfl,⟨rfl,h1.1,h1.2⟩,⟨rfl,h2.1,h2.2⟩⟩⟩
theorem QF {x:fR} (h:kr.O w cs x S):cs = [Q x.fJ,C Z x.fA,C Z x.iG]/\S = []/\x.fJ.size<=9223372036854775807/\fQ x.fA/\fQ x.iG:=by
 obtain⟨_,_,_,_,rfl,rfl,⟨rfl,a2,rfl⟩,⟨_,_,_,_,rfl,rfl,⟨rfl,a0,a1,rfl⟩,⟨rfl,a3,a4,rfl⟩⟩⟩:=h;exact⟨rfl,rfl,a2,⟨a0,a1⟩,⟨a3,a4⟩⟩
theorem OC {x:fR} (h0:x.fJ.size<=9223372036854775807)(h1:fQ x.fA)(h2:fQ x.iG):kr.O w [Q x.fJ,C Z x.fA,C Z x.iG] x ([]):=by
 exact⟨[Q x.fJ],[C Z x.fA,C Z x.iG],[],([]++[]),rfl,rfl,⟨rfl,h0,rfl⟩,⟨[C Z x.fA],[C Z x.iG],[],[],rfl,rfl,⟨rfl,h1.1,h1.2,rfl⟩,⟨rfl,h2.1,h2.2,rfl⟩⟩⟩
structure ii where
 Code:G
 fq:D fR
 deriving DecidableEq
def jS:Ty ii:=(jB.prod (kr.sl 137)).via fun x=>(x.Code,x.fq)
theorem Tv {x:ii} (h:jS.R w B cs x):∃ A0 c0,cs = [Q x.Code,J A0 x.fq.length c0]/\x.Code.size<=9223372036854775807/\(kr.sl 137).R w B [J A0 x.fq.length c0] x.fq:=by
 obtain⟨_,_,rfl,⟨rfl,a1⟩,a0⟩:=h;obtain⟨A0,c0,rfl,_⟩:=id a0;exact⟨A0,c0,rfl,a1,a0⟩
structure gQ where
 fw:D ii
 fD:D Int
 fm:D Int
 deriving DecidableEq
def nh:Ty gQ:=((jS.sl 103).prod ((zv.sl 3).prod (zv.sl 3))).via fun x=>(x.fw,x.fD,x.fm)
theorem Kv {x:gQ} (h:nh.R w B cs x):∃ A0 c0 A1 c1 A2 c2,cs = [J A0 x.fw.length c0,J A1 x.fD.length c1,J A2 x.fm.length c2]/\(jS.sl 103).R w B [J A0 x.fw.length c0] x.fw/\(zv.sl 3).R w B [J A1 x.fD.length c1] x.fD/\(zv.sl 3).R w B [J A2 x.fm.length c2] x.fm:=by
 obtain⟨_,_,rfl,a1,⟨_,_,rfl,a2,a0⟩⟩:=h;obtain⟨A0,c0,rfl,_⟩:=id a1;obtain⟨A1,c1,rfl,_⟩:=id a2;obtain⟨A2,c2,rfl,_⟩:=id a0;exact⟨A0,c0,A1,c1,A2,c2,rfl,a1,a2,a0⟩
theorem wS {g:Prop} (f:g:=by
  have h:nh.O w [J A0 x.fw.length c0,J A1 x.fD.length c1,J A2 x.fm.length c2] x (S0++(S1++S2)):=⟨[J A0 x.fw.length c0],[J A1 x.fD.length c1,J A2 x.fm.length c2],S0,(S1++S2),rfl,rfl,h0,⟨[J A1 x.fD.length c1],[J A2 x.fm.length c2],S1,S2,rfl,rfl,h1,h2⟩⟩
  simpa using h):g:=f
theorem PP {x:gQ} (A0:N VQ)(c0:Nat)(S0:D Nat)(A1:N VQ)(c1:Nat)(S1:D Nat)(A2:N VQ)(c2:Nat)(S2:D Nat)(h0:(jS.sl 103).O w [J A0 x.fw.length c0] x.fw S0)(h1:(zv.sl 3).O w [J A1 x.fD.length c1] x.fD S1)(h2:(zv.sl 3).O w [J A2 x.fm.length c2] x.fm S2):nh.O w [J A0 x.fw.length c0,J A1 x.fD.length c1,J A2 x.fm.length c2] x (S0++S1++S2):=by
 exact wS
structure fF where
 Pc:Int
 Sp:Int
 Fp:Int
 fK:D Int
 iE:D Int
 fY:Int
 Value:Int
 deriving DecidableEq
def lQ:Ty fF:=(zv.prod (zv.prod (zv.prod ((zv.sl 3).prod ((zv.sl 3).prod (zv.prod zv)))))).via fun x=>(x.Pc,x.Sp,x.Fp,x.fK,x.iE,x.fY,x.Value)
theorem Jf {x:fF} (h:lQ.R w B cs x):∃ A0 c0 A1 c1,cs = [C Z x.Pc,C Z x.Sp,C Z x.Fp,J A0 x.fK.length c0,J A1 x.iE.length c1,C Z x.fY,C Z x.Value]/\fQ x.Pc/\fQ x.Sp/\fQ x.Fp/\(zv.sl 3).R w B [J A0 x.fK.length c0] x.fK/\(zv.sl 3).R w B [J A1 x.iE.length c1] x.iE/\fQ x.fY/\fQ x.Value:=by
 obtain⟨_,_,rfl,⟨rfl,a7,aa⟩,⟨_,_,rfl,⟨rfl,a8,ab⟩,⟨_,_,rfl,⟨rfl,a6,a9⟩,⟨_,_,rfl,a0,⟨_,_,rfl,a5,⟨_,_,rfl,⟨rfl,a1,a3⟩,⟨rfl,a2,a4⟩⟩⟩⟩⟩⟩⟩:=h;obtain⟨A0,c0,rfl,_⟩:=id a0;obtain⟨A1,c1,rfl,_⟩:=id a5;exact⟨A0,c0,A1,c1,rfl,⟨a7,aa⟩,⟨a8,ab⟩,⟨a6,a9⟩,a0,a5,⟨a1,a3⟩,⟨a2,a4⟩⟩
theorem CM {x:fF} (h:lQ.O w cs x S):∃ A0 c0 S0 A1 c1 S1,cs = [C Z x.Pc,C Z x.Sp,C Z x.Fp,J A0 x.fK.length c0,J A1 x.iE.length c1,C Z x.fY,C Z x.Value]/\S=S0++S1/\fQ x.Pc/\fQ x.Sp/\fQ x.Fp/\(zv.sl 3).O w [J A0 x.fK.length c0] x.fK S0/\(zv.sl 3).O w [J A1 x.iE.length c1] x.iE S1/\fQ x.fY/\fQ x.Value:=by
 obtain⟨_,_,_,_,rfl,rfl,⟨rfl,a7,aa,rfl⟩,⟨_,_,_,_,rfl,rfl,⟨rfl,a8,ab,rfl⟩,⟨_,_,_,_,rfl,rfl,⟨rfl,a6,a9,rfl⟩,⟨_,_,_,_,rfl,rfl,a0,⟨_,_,_,_,rfl,rfl,a5,⟨_,_,_,_,rfl,rfl,⟨rfl,a1,a3,rfl⟩,⟨rfl,a2,a4,rfl⟩⟩⟩⟩⟩⟩⟩:=h;obtain⟨A0,c0,_,_,rfl,_⟩:=id a0;obtain⟨A1,c1,_,_,rfl,_⟩:=id a5;exact⟨A0,c0,_,A1,c1,_,rfl,gm,⟨a7,aa⟩,⟨a8,ab⟩,⟨a6,a9⟩,a0,a5,⟨a1,a3⟩,⟨a2,a4⟩⟩
structure gB where
 fo:gQ
 fu:D fF
 gM:Int
 gO:Int
 fW:Int
 deriving DecidableEq
def nz:Ty gB:=(nh.prod ((lQ.sl 41).prod (zv.prod (zv.prod zv)))).via fun x=>(x.fo,x.fu,x.gM,x.gO,x.fW)
theorem PO {x:gB} (h:nz.R w B cs x):∃ A0 c0 A1 c1 A2 c2 A3 c3,cs = [J A0 x.fo.fw.length c0,J A1 x.fo.fD.length c1,J A2 x.fo.fm.length c2,J A3 x.fu.length c3,C Z x.gM,C Z x.gO,C Z x.fW]/\(jS.sl 103).R w B [J A0 x.fo.fw.length c0] x.fo.fw/\(zv.sl 3).R w B [J A1 x.fo.fD.length c1] x.fo.fD/\(zv.sl 3).R w B [J A2 x.fo.fm.length c2] x.fo.fm/\(lQ.sl 41).R w B [J A3 x.fu.length c3] x.fu/\fQ x.gM/\fQ x.gO/\fQ x.fW:=by
 obtain⟨_,_,rfl,⟨_,_,rfl,a1,⟨_,_,rfl,a2,a0⟩⟩,⟨_,_,rfl,a3,⟨_,_,rfl,⟨rfl,a7,a9⟩,⟨_,_,rfl,⟨rfl,a6,a8⟩,⟨rfl,a4,a5⟩⟩⟩⟩⟩:=h;obtain⟨A0,c0,rfl,_⟩:=id a1;obtain⟨A1,c1,rfl,_⟩:=id a2;obtain⟨A2,c2,rfl,_⟩:=id a0;obtain⟨A3,c3,rfl,_⟩:=id a3;exact⟨A0,c0,A1,c1,A2,c2,A3,c3,rfl,a1,a2,a0,a3,⟨a7,a9⟩,⟨a6,a8⟩,⟨a4,a5⟩⟩
theorem PN {x:gB} (h:nz.O w cs x S):∃ A0 c0 S0 A1 c1 S1 A2 c2 S2 A3 c3 S3,cs = [J A0 x.fo.fw.length c0,J A1 x.fo.fD.length c1,J A2 x.fo.fm.length c2,J A3 x.fu.length c3,C Z x.gM,C Z x.gO,C Z x.fW]/\S=S0++S1++S2++S3/\(jS.sl 103).O w [J A0 x.fo.fw.length c0] x.fo.fw S0/\(zv.sl 3).O w [J A1 x.fo.fD.length c1] x.fo.fD S1/\(zv.sl 3).O w [J A2 x.fo.fm.length c2] x.fo.fm S2/\(lQ.sl 41).O w [J A3 x.fu.length c3] x.fu S3/\fQ x.gM/\fQ x.gO/\fQ x.fW:=by
 obtain⟨_,_,_,_,rfl,rfl,⟨_,_,_,_,rfl,rfl,a1,⟨_,_,_,_,rfl,rfl,a2,a0⟩⟩,⟨_,_,_,_,rfl,rfl,a3,⟨_,_,_,_,rfl,rfl,⟨rfl,a7,a9,rfl⟩,⟨_,_,_,_,rfl,rfl,⟨rfl,a6,a8,rfl⟩,⟨rfl,a4,a5,rfl⟩⟩⟩⟩⟩:=h;obtain⟨A0,c0,_,_,rfl,_⟩:=id a1;obtain⟨A1,c1,_,_,rfl,_⟩:=id a2;obtain⟨A2,c2,_,_,rfl,_⟩:=id a0;obtain⟨A3,c3,_,_,rfl,_⟩:=id a3;exact⟨A0,c0,_,A1,c1,_,A2,c2,_,A3,c3,_,rfl,gm,a1,a2,a0,a3,⟨a7,a9⟩,⟨a6,a8⟩,⟨a4,a5⟩⟩
def kD (code:G):D fR->D G->Nat->Bool
 | [],_,a=>decide (a=code.size)
 | x::r,prev,a=>decide (x.fA=(a:Int)) && decide (1<=x.iG) && decide (x.iG<=(code.size:Int)-a) && mN x.fJ && !prev.any (fun y=>decide (y=x.fJ)) && mF (code.extract a (a+x.iG.toNat)) 0 && kD code r (prev++[x.fJ]) (a+x.iG.toNat)
def kI (i:ii):Bool:=decide (i.Code.size<=1000000) && kD i.Code i.fq [] 0
def r9 (x:fR)(off:Int):Bool:=gE x.fA 0 1000000 && gE x.iG 0 1000000 && decide (x.fA<=off) && decide (off<x.fA+x.iG)
def oS:D fR->Int->Nat->Int
 | [],_,_=>-1
 | x::r,off,k=>if r9 x off=H then (k:Int) else oS r off (k+1)
theorem P5 {x:fR} {r:D fR} (h:kD code (x::r) prev a=H) :
  x.fA=(a:Int)/\1<=x.iG/\x.iG<=(code.size:Int)-a/\kD code r (prev++[x.fJ]) (a+x.iG.toNat)=H:=by
 simp only[kD,Vt,VD] at h;exact⟨h.1.1.1.1.1.1,h.1.1.1.1.1.2,h.1.1.1.1.2,h.2⟩
theorem Dn (hc:code.size<=1000000):∀(l:D fR)(prev:D G)(a k0:Nat),kD code l prev a=H->∀ x∈l,(∃ k y,oS l x.fA k0=((k0+k:Nat):Int)/\l[k]?=F y/\y.fA=x.fA)/\(a:Int)<=x.fA/\x.fA+1<=code.size:=by
 intro l;induction l with
 | nil=>intro prev a k0 _ x hx;cases hx
 | cons y r ih=>
  intro prev a k0 h x hx;obtain⟨h1,h2,h3,h4⟩:=P5 h;rcases VT.1 hx with rfl | hx
  ·refine⟨⟨0,x,?_,rfl,rfl⟩,by omega,by omega⟩
   have:r9 x x.fA=H:=by
    unfold r9;rw[pU (by omega) (by omega),pU (by omega) (by omega)];simp;omega
   simp[oS,this]
  ·obtain⟨⟨k,z,e1,e2,e3⟩,e4,e5⟩:=ih _ _ (k0+1) h4 x hx
   refine⟨⟨k+1,z,?_,e2,e3⟩,by omega,e5⟩
   have:r9 y x.fA=M:=by
    unfold r9;simp;omega
   simp only[oS,this];rw[Vo (by simp),e1];congr 1;omega
theorem Je:∀(l:D fR)(off:Int)(k0:Nat),oS l off k0 = -1∨∃ k x,oS l off k0=((k0+k:Nat):Int)/\l[k]?=F x/\x∈l:=by
 intro l;induction l with
 | nil=>intro off k0;exact .inl rfl
 | cons x r ih=>
  intro off k0;simp only[oS];split
  ·exact .inr ⟨0,x,gm,rfl,gm⟩
  ·rcases ih off (k0+1) with h | ⟨k,y,h1,h2,h3⟩
   ·exact .inl h
   ·exact .inr ⟨k+1,y,by rw[h1];congr 1;omega,h2,by simp[h3]⟩
def mG:D ii->D Int->Int->Nat->Int × Int
 | i::is,b::bs,a,k=>if b<=a/\a<b+i.Code.size then ((k:Int),a-b) else mG is bs a (k+1)
 | _,_,_,_=>(-1,-1)
def loc (s:gQ)(a:Int):Int × Int:=mG s.fw s.fD a 0
def mg (s:gQ)(e:Int):Bool:=(s.fw.zip s.fD).any fun p=>p.1.fq.any fun x=>decide (p.2+x.fA=e)
def sj (s:gQ)(e:Int):Bool:=
 match s.fw[(loc s e).1.toNat]? with
 | none=>M
 | some i=>decide (0<=(loc s e).1) && (match i.fq[(oS i.fq (loc s e).2 0).toNat]? with
  | none=>M
  | some x=>decide (0<=oS i.fq (loc s e).2 0) && decide (x.fA=(loc s e).2))
def Dx (s:gQ):Bool:=
 match s.fw,s.fD with
 | [i,j],[a,b]=>decide (0<i.Code.size) && decide (0<j.Code.size) && decide (a<b+j.Code.size) && decide (b<a+i.Code.size)
 | _,_=>H
def ke (s:gQ):Bool:=
 decide (s.fw.length=2) && decide (s.fD.length=2) && gE s.fm.length 1 6 && s.fw.all kI && s.fD.all (fun b=>gE b 1 1000000) && !Dx s && s.fm.all (mg s)
theorem UA {i j:ii} {a b:Int} {es:D Int} (hi:kI i=H)(hj:kI j=H)(ha:1<=a)(hb:1<=b)(ho:¬ (0<i.Code.size/\0<j.Code.size/\a<b+j.Code.size/\b<a+i.Code.size))(e:Int) :
  sj ⟨[i,j],[a,b],es⟩ e=mg ⟨[i,j],[a,b],es⟩ e:=by
 simp only[kI,Vt,VD] at hi hj;obtain⟨ci,fi⟩:=hi;obtain⟨cj,fj⟩:=hj
 have a0:sj ⟨[i,j],[a,b],es⟩ e=H↔mg ⟨[i,j],[a,b],es⟩ e=H:=by
  simp only[mg,List.zip_cons_cons,List.zip_nil_right,List.any_cons,List.any_nil,Bool.or_false,Ya,Xs,VD];constructor
  ·intro h
   have hl:(loc ⟨[i,j],[a,b],es⟩ e=(0,e-a))∨(loc ⟨[i,j],[a,b],es⟩ e=(1,e-b))∨loc ⟨[i,j],[a,b],es⟩ e=(-1,-1):=by
    simp only[loc,mG];split
    ·simp
    ·split
     ·simp
     ·simp
   have hz:∀(l:D fR) (o:Int),(match l[(oS l o 0).toNat]? with
     | none=>M
     | some x=>decide (0<=oS l o 0) && decide (x.fA=o))=H->∃ x∈l,x.fA=o:=by
    intro l o h;split at h
    ·cases h
    ·rename_i x hx
     simp only[Vt,VD] at h;exact⟨x,Vx hx,h.2⟩
   unfold sj at h;rcases hl with hl | hl | hl
   ·rw[hl] at h
    simp at h;obtain⟨x,hx,hs⟩:=hz i.fq (e-a) (by simpa using h);exact .inl ⟨x,hx,fh⟩
   ·rw[hl] at h
    simp at h;obtain⟨x,hx,hs⟩:=hz j.fq (e-b) (by simpa using h);exact .inr ⟨x,hx,fh⟩
   ·rw[hl] at h
    simp at h
  ·intro h
   rcases h with⟨x,hx,he⟩ | ⟨x,hx,he⟩
   ·obtain⟨⟨k,y,e1,e2,e3⟩,e4,e5⟩:=Dn ci i.fq [] 0 0 fi x hx
    have hl:loc ⟨[i,j],[a,b],es⟩ e=(0,x.fA):=by
     simp only[loc,mG];rw[Vs fh];simp;omega
    unfold sj;rw[hl];simp[e1,e2,e3]
   ·obtain⟨⟨k,y,e1,e2,e3⟩,e4,e5⟩:=Dn cj j.fq [] 0 0 fj x hx
    have hl:loc ⟨[i,j],[a,b],es⟩ e=(1,x.fA):=by
     simp only[loc,mG];rw[Vo fh,Vs fh];simp;omega
    unfold sj;rw[hl];simp[e1,e2,e3]
 cases h1:sj ⟨[i,j],[a,b],es⟩ e <;> cases h2:mg ⟨[i,j],[a,b],es⟩ e <;> simp_all
def uW (x:fR):Nat:=x.fJ.size
theorem sC {e:Wl} {xs:D fR} (h:(kr.sl e).R w B [J A n c] xs){k:Nat}(hk:k<xs.length) :
  ∃ g off x ,A=F ⟨g,off,I⟩/\g<B/\xs[k]?=F x/\Vg w ⟨g,off+k*3,I⟩=F (Q x.fJ)/\Vg w ⟨g,off+k*3+1,I⟩=F (C Z x.fA)/\Vg w ⟨g,off+k*3+2,I⟩=F (C Z x.iG)/\x.fJ.size<=9223372036854775807/\fQ x.fA/\fQ x.iG:=by
 obtain⟨g,off,x,ec,h1,hB,h2,h3,h4⟩:=pz h hk;obtain⟨rfl,hf⟩:=QG h3;exact⟨g,off,x,h1,hB,h2,h4 0 _ rfl,h4 1 _ rfl,h4 2 _ rfl,hf⟩
theorem MU:(prog.info? 137).map (fun i=>(i.zero,i.size,i.bytes))=F (F (.agg #[Q ⟨#[]⟩,C Z 0,C Z 0]),3,32):=gU
theorem EF:lL kr:=AA _ (qH ng (qH zI zI))
theorem FJ:iZ prog 101 137 kr 32:=by
 obtain⟨i0,hi,a0,a1,a2⟩:=Xt MU;exact⟨underlying101,⟨i0,_,hi,a0,a1,a2,rfl⟩,gv⟩
def R4 (x:ii)(w:V)(r:Z9)(w':V):Prop:=∃ A0 c0,r=.returned (.agg #[Q x.Code,J A0 x.fq.length c0])/\gH jS w w' [Q x.Code,J A0 x.fq.length c0] x/\fy w w'
theorem EN {x:ii} (h0:x.Code.size<=9223372036854775807)(h1:(kr.sl 137).O w [J A0 x.fq.length c0] x.fq S1):jS.O w [Q x.Code,J A0 x.fq.length c0] x (S1):=by
 have h:jS.O w [Q x.Code,J A0 x.fq.length c0] x ([]++S1):=⟨[Q x.Code],[J A0 x.fq.length c0],[],S1,rfl,rfl,⟨rfl,h0,rfl⟩,h1⟩
 simpa using h
theorem Nv {x:ii} {u1:V} {m1:Nat} (h0:x.Code.size<=9223372036854775807)(h1:kN (kr.sl 137) u1 m1 W [J A0 x.fq.length c0] x.fq)(hw1:w.heap.size<=u1.heap.size):gH jS w W [Q x.Code,J A0 x.fq.length c0] x:=by
 obtain⟨S1,a2,a1,a0⟩:=h1;exact⟨_,EN h0 a2,a1,fun b hb=>(by have:=a0 b hb;omega)⟩
def oK (x:ii):Nat:=x.Code.size+nQ uW x.fq
theorem vh {e:Wl} {xs:D ii} (h:(jS.sl e).R w B [J A n c] xs){k:Nat}(hk:k<xs.length) :
  ∃ g off x A0 c0,A=F ⟨g,off,I⟩/\g<B/\xs[k]?=F x/\Vg w ⟨g,off+k*2,I⟩=F (Q x.Code)/\Vg w ⟨g,off+k*2+1,I⟩=F (J A0 x.fq.length c0)/\x.Code.size<=9223372036854775807/\(kr.sl 137).R w B [J A0 x.fq.length c0] x.fq:=by
 obtain⟨g,off,x,ec,h1,hB,h2,h3,h4⟩:=pz h hk;obtain⟨A0,c0,rfl,hf⟩:=Tv h3;exact⟨g,off,x,A0,c0,h1,hB,h2,h4 0 _ rfl,h4 1 _ rfl,hf⟩
theorem MT:(prog.info? 103).map (fun i=>(i.zero,i.size,i.bytes))=F (F (.agg #[Q ⟨#[]⟩,J I 0 0]),2,40):=gU
theorem SH:iZ prog 25 103 jS 40:=by
 obtain⟨i0,hi,a0,a1,a2⟩:=Xt MT;exact⟨underlying25,⟨i0,_,hi,a0,a1,a2,rfl⟩,gv⟩
def R9 (x:gQ)(w:V)(r:Z9)(w':V):Prop:=∃ A0 c0 A1 c1 A2 c2,r=.returned (.agg #[J A0 x.fw.length c0,J A1 x.fD.length c1,J A2 x.fm.length c2])/\gH nh w w' [J A0 x.fw.length c0,J A1 x.fD.length c1,J A2 x.fm.length c2] x/\fy w w'
theorem EO {x:gQ} {A1:N VQ} {c1:Nat} {A2:N VQ} {c2:Nat} {S0:D Nat} {S2:D Nat} (h0:(jS.sl 103).O w [J A0 x.fw.length c0] x.fw S0)(h1:(zv.sl 3).O w [J A1 x.fD.length c1] x.fD S1)(h2:(zv.sl 3).O w [J A2 x.fm.length c2] x.fm S2):nh.O w [J A0 x.fw.length c0,J A1 x.fD.length c1,J A2 x.fm.length c2] x (S0++S1++S2):=by
 exact wS
def my (x:gQ):Nat:=nQ oK x.fw+x.fD.length+x.fm.length
theorem Lg {l:D fR} {x:fR} (h:l[j]?=F x):kD code (l.drop j) prev a=(decide (x.fA=(a:Int)) && decide (1<=x.iG) && decide (x.iG<=(code.size:Int)-a) && mN x.fJ && !prev.any (fun y=>decide (y=x.fJ)) && mF (code.extract a (a+x.iG.toNat)) 0 && kD code (l.drop (j+1)) (prev++[x.fJ]) (a+x.iG.toNat)):=by
 have hl:=(Vh.1 h)
 obtain⟨hl,rfl⟩:=hl;rw[VB hl];rfl
theorem II {l:D fR} {x:fR} (h:l[j]?=F x):(l.take (j+1)).map fR.fJ=(l.take j).map fR.fJ++[x.fJ]:=by
 rw[yB h,X9];rfl
theorem wU {g:Prop} (f:g:=by
  obtain⟨y,hy,hye⟩:=Yc.1 hyn
  have hye:y.fJ=nm:=hye.trans (by simpa using hye2)
  obtain⟨i,hi⟩:=List.mem_iff_getElem?.1 hy
  have him:i<m:=by
   have:=(Vh.1 hi).1
   rw[WK] at this
   omega
  rw[Xh,Vs him] at hi
  exact absurd hye (hne.out i y him hi)):g:=f
theorem xr {g:Prop} (f:g:=by
  go_wp2_with(fail)
  go_roundw
  case measure=>exact iC
  case rel=>exact⟨m+1,io,fh,fk (fun i y hi hy=>by
   by_cases him:i=m
   ·subst him
    rw[HYK.out] at hy
    cases hy
    exact HE.out
   ·exact hne.out i y fh hy),fk gG⟩):g:=f
theorem zfD {i:ii} (h1:(kr.sl 137).R w w.heap.size [J A i.fq.length c] i.fq)(hs:i.Code.size<=1099511627776)(hn:i.fq.length<=1099511627776) :
  VK prog 87 #[.agg #[Q i.Code,J A i.fq.length c]] w fun e w'=>e=.returned (X (kI i))/\fy w w':=by
 obtain⟨_,_,au,av,ao⟩:=mQ h1;injection au with e1 e2 e3
 subst e1 e3;clear e2;obtain⟨code,a0⟩:=i;simp only at h1 hs hn av ao |-;by_cases hbig:code.size<=1000000
 case neg=>
  have HQ:=fk (show kI ⟨code,a0⟩=M from by simp[kI,hbig]);have hg:decide ((1000000:Int)<(code.size:Int))=H:=Vv fh;go_enter func87,ntmps87;go_wp2_with(fail);go_ret;exact⟨zp HQ.out.symm,gG⟩
 have HQ:=fk (show kI ⟨code,a0⟩=kD code a0 [] 0 from by simp[kI,hbig]);have hg:decide ((1000000:Int)<(code.size:Int))=M:=Vp fh;go_enter func87,ntmps87;go_wp2_with(fail);have a1:fy w (w.alloc (U #[Q code,J A a0.length c] 103)):=gG;have eb:=Vj w (U #[Q code,J A a0.length c] 103);have h2:=Ty.up _ h1 a1;obtain⟨g0,ak⟩:∃ g0,w.heap.size=g0:=⟨_,rfl⟩
 rw[ak] at eb |-;generalize w.alloc _=Y at a1 eb h2 |-;clear h1 ak;obtain⟨y0,y1,_,_,yl⟩:=mI eb;go_loopw [3,17] (fun x y wr=>∃(j a:Nat),x=C Z a/\y=C Z j/\j<=a0.length/\a<=code.size/\Hid (kD code (a0.drop j) ((a0.take j).map fR.fJ) a=kD code a0 [] 0)/\Hid (fy Y wr)) (fun _ y _=>a0.length-(Wj y).toNat)
 case atStart=>exact⟨0,0,rfl,rfl,Vu _,Vu _,fk rfl,fk (fy.refl _)⟩
 case round=>
  obtain⟨j,a,rfl,rfl,hj,ha,hE,hG⟩:=hrel;obtain⟨os,d,rfl⟩:=hG.out;clear hG;by_cases hlt:j<a0.length
  ·obtain⟨g,aK,x,rfl,aE,al,ad,ae,af,aa,am,an⟩:=sC h2 hlt
   have hF:=Lg (code:=code) (a:=a) (prev:=(a0.take j).map fR.fJ) al;rw[hE.out] at hF;have a9:=fk (II al);have ah:=zd ad os d;have ai:=zd ae os d;have aj:=zd af os d;have z0:=zd y0 os d;have z1:=zd y1 os d;have aG:(j:Int)<(a0.length:Int):=fh;clear hE;obtain⟨nm,st,sz⟩:=x;simp only at hF ad ae af aa am an ah ai aj a9;by_cases q1:st=(a:Int)
   case neg=>
    have HF:=fk (show kD code a0 [] 0=M from by rw[hF];simp[q1]);have p1:(st != (a:Int))=H:=by simp[q1]
    clear hF;go_wp2_with(fail);go_ret;exact⟨zp (by rw[HQ.out,HF.out]),a1.trans gF⟩
   subst q1;have p1:(((a:Nat):Int) != (a:Int))=M:=gm;by_cases q2:1<=sz
   case neg=>
    have HF:=fk (show kD code a0 [] 0=M from by rw[hF];simp[q2]);have p2:decide (sz<1)=H:=Vv fh;clear hF;go_wp2_with(fail);go_ret;exact⟨zp (by rw[HQ.out,HF.out]),a1.trans gF⟩
   have p2:decide (sz<1)=M:=Vp fh;by_cases q3:sz<=(code.size:Int)-a
   case neg=>
    have HF:=fk (show kD code a0 [] 0=M from by rw[hF];simp[q3]);have p3:decide ((code.size:Int)-a<sz)=H:=Vv fh;clear hF;go_wp2_with(fail);go_ret;exact⟨zp (by rw[HQ.out,HF.out]),a1.trans gF⟩
   have p3:decide ((code.size:Int)-a<sz)=M:=Vp fh;obtain⟨z,rfl⟩:=VI (show 0<=sz from fh);cases q4:mN nm
   case false=>
    have HF:=fk (show kD code a0 [] 0=M from by rw[hF];simp[q4]);have HN:=fk q4;clear hF q4;go_wp2_with(go_at_call 143;refine(KM nm _ aa).mono ?_;rw[HN.out];rintro e w1 ⟨rfl,rfl⟩);go_ret;exact⟨zp (by rw[HQ.out,HF.out]),a1.trans gF⟩
   have HN:=fk q4
   have ag:kD code a0 [] 0=(!((a0.take j).map fR.fJ).any (fun y=>decide (y=nm)) && mF (code.extract a (a+z)) 0 && kD code (a0.drop (j+1)) ((a0.take (j+1)).map fR.fJ) (a+z)):=by
    rw[hF,a9.out,q4];simp[q2,q3]
   have a8:=fk ag;clear hF ag q4 a9;go_wp2_with(go_at_call 143;refine(KM nm _ aa).mono ?_;rw[HN.out];rintro e w1 ⟨rfl,rfl⟩);have a2:fy Y ((fH Y os d).alloc (U #[Q nm,C Z (a:Int),C Z (z:Int)] 137)):=gG;have es:=Vj (fH Y os d) (U #[Q nm,C Z (a:Int),C Z (z:Int)] 137);obtain⟨gs,a7⟩:∃ gs,(fH Y os d).heap.size=gs:=⟨_,rfl⟩
   rw[a7] at es;rw[mJ] at a7;rw[a7];generalize (fH Y os d).alloc _=Va at a2 es |-;have hc:=fun k=>WC Va gs k _ _ (0,0) es;have v0:Vg Va ⟨gs,0,I⟩=F (Q nm):=hc 0;have v1:Vg Va ⟨gs,1,I⟩=F (C Z (a:Int)):=hc 1;have v2:Vg Va ⟨gs,2,I⟩=F (C Z (z:Int)):=hc 2;have u0:=lN a2 y0;have u1:=lN a2 y1;have h3:=Ty.up _ h2 a2;have vl:gs<Va.heap.size:=(blt es)
   have ul:g0<Va.heap.size:=Vn yl a2.size;clear hc es ah ai aj z0 z1 ad ae af p1 p2 p3 a7;have aH:(j:Int)<=(a0.length:Int):=fh;have aF:(j:Int)<=(c:Int):=fh;go_loopw [52] (fun y we=>∃ m:Nat,y=C Z m/\m<=j/\Hid (∀(i:Nat) (y:fR),i<m->a0[i]?=F y->y.fJ≠nm)/\Hid (fy Va we)) (fun y _=>j-(Wj y).toNat)
   case atStart=>exact⟨0,rfl,Vu _,fk (fun i y h=>absurd h (YZ _)),fk (fy.refl _)⟩
   case round=>
    obtain⟨m,rfl,hm,hne,hG⟩:=hrel;obtain⟨a3,d2,rfl⟩:=hG.out;clear hG;by_cases hml:m<j
    ·obtain⟨g2,az,y,ab,aq,a6,aw,ax,ay,aB,aC,aD⟩:=sC h3 (k:=m) fh
     injection ab with ab
     injection ab with e1 e2
     subst e1 e2;have aI:(m:Int)<(j:Int):=fh;have k0:=zd aw a3 d2;have k1:=zd ax a3 d2;have k2:=zd ay a3 d2;have r0:=zd v0 a3 d2;obtain⟨yn,ys,yz⟩:=y;simp only at k0 k1 k2 a6;by_cases he:yn=nm
     ·subst he
      have HF:=fk (show kD code a0 [] 0=M from by
       rw[a8.out];have:yn∈(a0.take j).map fR.fJ:=Yc.2 ⟨_,Vx (i:=m) (by rw[Xh,Vs hml];exact a6),rfl⟩;have ap:((a0.take j).map fR.fJ).any (fun y=>decide (y=yn))=H:=Xs.2 ⟨yn,this,gm⟩;rw[ap]
       rfl)
      clear a6;go_wp2_with(fail);go_ret;exact⟨zp (by rw[HQ.out,HF.out]),(a1.trans a2).trans gF⟩
     ·have aJ:(yn.toList == nm.toList)=M:=by rw[mb,Vp he]
      have HE:=fk he;have HYK:=fk a6;clear he a6;exact xr
    ·obtain rfl:m=j:=fh
     have aL:=zd u0 a3 d2;have aM:=zd u1 a3 d2;have aN:=zd v1 a3 d2;have aO:=zd v2 a3 d2
     have ar:((a0.take m).map fR.fJ).any (fun y=>decide (y=nm))=M:=by
      cases hcc:((a0.take m).map fR.fJ).any (fun y=>decide (y=nm))
      ·rfl
      ·obtain⟨yn,hyn,hye2⟩:=Xs.1 hcc
       exact wU
     have a4:=a8.out;rw[ar] at a4;simp only[Zm,XX] at a4;clear hne a8;have a5:(code.extract a (a+z)).size<=1099511627776:=by rw[YM];omega
     obtain⟨b,hb⟩:∃ b,mF (code.extract a (a+z)) 0=b:=⟨_,rfl⟩
     rw[hb] at a4;have HB:=fk hb;have w1:Vl Z ((a:Int)+(z:Int))=(a:Int)+(z:Int):=WI _ fh;have w2:(a:Int)+(z:Int)<=(code.size:Int):=fh;have w3:(a:Int)<=(a:Int)+(z:Int):=fh;have w4:(0:Int)<=(a:Int)+(z:Int):=fh;clear hb;cases b with
     | false=>
      have HF:=fk (show kD code a0 [] 0=M from by rw[a4];rfl);clear a4;go_wp2_with(go_at_call 144;refine(zyX (code.extract a (a+z)) _ a5).mono ?_;rw[HB.out];rintro e w4 ⟨A4,n4,c4,rfl,aA,d4,rfl⟩);go_ret;exact⟨zp (by rw[HQ.out,HF.out]),(a1.trans a2).trans gF⟩
     | true=>
      have HF:=fk (show kD code (a0.drop (m+1)) ((a0.take (m+1)).map fR.fJ) (a+z)=kD code a0 [] 0 from by rw[a4];simp);clear a4;go_wp2_with(go_at_call 144;refine(zyX (code.extract a (a+z)) _ a5).mono ?_;rw[HB.out];rintro e w4 ⟨A4,n4,c4,rfl,aA,d4,rfl⟩);go_roundw;exact⟨m+1,a+z,io,io,fh,fh,HF,fk (a2.trans gF)⟩;exact iC
  ·obtain rfl:j=a0.length:=fh
   have ac:=hE.out;rw[VW] at ac
   have HF:=fk (show ((a:Int) == (code.size:Int))=kD code a0 [] 0 from by
    rw[<-ac];simp only[kD];by_cases h:a=code.size
    ·simp[h]
    ·simp[h];omega)
   have z0:=zd y0 os d;clear hE ac;go_wp2_with(fail);go_ret;exact⟨zp (by rw[HQ.out,<-HF.out]),a1.trans gF⟩
theorem zfE {i:ii} (h1:(kr.sl 137).R w w.heap.size [J A i.fq.length c] i.fq)(hs:i.Code.size<=1099511627776)(hn:i.fq.length<=1099511627776) :
  VK prog 81 #[.agg #[Q i.Code,J A i.fq.length c]] w fun e w'=>e=.returned (X (kI i))/\fy w w':=by
 obtain⟨_,_,av,aw,ao⟩:=mQ h1;injection av with e1 e2 e3
 subst e1 e3;clear e2;obtain⟨code,a0⟩:=i;simp only at h1 hs hn aw ao |-;have HQ:=fk (show kI ⟨code,a0⟩=(kD code a0 [] 0 && decide (code.size<=1000000)) from by simp[kI,Bool.and_comm]);go_enter func81,ntmps81;go_wp2_with(fail);have a1:fy w (w.alloc (U #[Q code,J A a0.length c] 103)):=gG;have eb:=Vj w (U #[Q code,J A a0.length c] 103);have h2:=Ty.up _ h1 a1;obtain⟨g0,ak⟩:∃ g0,w.heap.size=g0:=⟨_,rfl⟩
 rw[ak] at eb |-;generalize w.alloc _=Y at a1 eb h2 |-;clear h1 ak;obtain⟨y0,y1,_,_,yl⟩:=mI eb;go_loopw [3,4] (fun x y wr=>∃(j a:Nat),x=C Z a/\y=C Z j/\j<=a0.length/\a<=code.size/\Hid (kD code (a0.drop j) ((a0.take j).map fR.fJ) a=kD code a0 [] 0)/\Hid (fy Y wr)) (fun _ y _=>a0.length-(Wj y).toNat)
 case atStart=>exact⟨0,0,rfl,rfl,Vu _,Vu _,fk rfl,fk (fy.refl _)⟩
 case round=>
  obtain⟨j,a,rfl,rfl,hj,ha,hE,hG⟩:=hrel;obtain⟨os,d,rfl⟩:=hG.out;clear hG;by_cases hlt:j<a0.length
  ·obtain⟨g,aM,x,rfl,aG,al,ad,ae,af,ab,am,an⟩:=sC h2 hlt
   have hF:=Lg (code:=code) (a:=a) (prev:=(a0.take j).map fR.fJ) al;rw[hE.out] at hF;have aa:=fk (II al);have ah:=zd ad os d;have ai:=zd ae os d;have aj:=zd af os d;have z0:=zd y0 os d;have z1:=zd y1 os d;have aI:(j:Int)<(a0.length:Int):=fh;clear hE;obtain⟨nm,st,sz⟩:=x;simp only at hF ad ae af ab am an ah ai aj aa;by_cases q1:st=(a:Int)
   case neg=>
    have HF:=fk (show kD code a0 [] 0=M from by rw[hF];simp[q1]);have p1:(st != (a:Int))=H:=by simp[q1]
    clear hF;go_wp2_with(fail);go_ret;exact⟨zp (by rw[HQ.out,HF.out];rfl),a1.trans gF⟩
   subst q1;have p1:(((a:Nat):Int) != (a:Int))=M:=gm;by_cases q2:1<=sz
   case neg=>
    have HF:=fk (show kD code a0 [] 0=M from by rw[hF];simp[q2]);have p2:decide (sz<1)=H:=Vv fh;clear hF;go_wp2_with(fail);go_ret;exact⟨zp (by rw[HQ.out,HF.out];rfl),a1.trans gF⟩
   have p2:decide (sz<1)=M:=Vp fh;by_cases q3:sz<=(code.size:Int)-a
   case neg=>
    have HF:=fk (show kD code a0 [] 0=M from by rw[hF];simp[q3]);have p3:decide ((code.size:Int)-a<sz)=H:=Vv fh;clear hF;go_wp2_with(fail);go_ret;exact⟨zp (by rw[HQ.out,HF.out];rfl),a1.trans gF⟩
   have p3:decide ((code.size:Int)-a<sz)=M:=Vp fh;obtain⟨z,rfl⟩:=VI (show 0<=sz from fh);cases q4:mN nm
   case false=>
    have HF:=fk (show kD code a0 [] 0=M from by rw[hF];simp[q4]);have HN:=fk q4;clear hF q4;go_wp2_with(go_at_call 133;refine(tg nm _ ab).mono ?_;rw[HN.out];rintro e w1 ⟨rfl,rfl⟩);go_ret;exact⟨zp (by rw[HQ.out,HF.out];rfl),a1.trans gF⟩
   have HN:=fk q4
   have ag:kD code a0 [] 0=(!((a0.take j).map fR.fJ).any (fun y=>decide (y=nm)) && mF (code.extract a (a+z)) 0 && kD code (a0.drop (j+1)) ((a0.take (j+1)).map fR.fJ) (a+z)):=by
    rw[hF,aa.out,q4];simp[q2,q3]
   have a9:=fk ag;clear hF ag q4 aa;go_wp2_with(go_at_call 133;refine(tg nm _ ab).mono ?_;rw[HN.out];rintro e w1 ⟨rfl,rfl⟩);have a3:fy Y ((fH Y os d).alloc (U #[Q nm,C Z (a:Int),C Z (z:Int)] 137)):=gG;have es:=Vj (fH Y os d) (U #[Q nm,C Z (a:Int),C Z (z:Int)] 137);obtain⟨gs,a8⟩:∃ gs,(fH Y os d).heap.size=gs:=⟨_,rfl⟩
   rw[a8] at es;rw[mJ] at a8;rw[a8];generalize (fH Y os d).alloc _=Va at a3 es |-;have hc:=fun k=>WC Va gs k _ _ (0,0) es;have v0:Vg Va ⟨gs,0,I⟩=F (Q nm):=hc 0;have v1:Vg Va ⟨gs,1,I⟩=F (C Z (a:Int)):=hc 1;have v2:Vg Va ⟨gs,2,I⟩=F (C Z (z:Int)):=hc 2;have u0:=lN a3 y0;have u1:=lN a3 y1;have h3:=Ty.up _ h2 a3;have vl:gs<Va.heap.size:=(blt es)
   have ul:g0<Va.heap.size:=Vn yl a3.size;clear hc es ah ai aj z0 z1 ad ae af p1 p2 p3 a8;have aJ:(j:Int)<=(a0.length:Int):=fh;have aH:(j:Int)<=(c:Int):=fh;go_loopw [6] (fun y we=>∃ m:Nat,y=C Z m/\m<=j/\Hid (∀(i:Nat) (y:fR),i<m->a0[i]?=F y->y.fJ≠nm)/\Hid (fy Va we)) (fun y _=>j-(Wj y).toNat)
   case atStart=>exact⟨0,rfl,Vu _,fk (fun i y h=>absurd h (YZ _)),fk (fy.refl _)⟩
   case round=>
    obtain⟨m,rfl,hm,hne,hG⟩:=hrel;obtain⟨a2,d2,rfl⟩:=hG.out;clear hG;by_cases hml:m<j
    ·obtain⟨g2,aA,y,ac,aq,a7,ax,ay,az,aD,aE,aF⟩:=sC h3 (k:=m) fh
     injection ac with ac
     injection ac with e1 e2
     subst e1 e2;have aK:(m:Int)<(j:Int):=fh;have ar:(m:Int)<(a0.length:Int):=fh;have aC:=zd u1 a2 d2;have k0:=zd ax a2 d2;have k1:=zd ay a2 d2;have k2:=zd az a2 d2;have r0:=zd v0 a2 d2;obtain⟨yn,ys,yz⟩:=y;simp only at k0 k1 k2 a7;by_cases he:yn=nm
     ·subst he
      have HF:=fk (show kD code a0 [] 0=M from by
       rw[a9.out];have:yn∈(a0.take j).map fR.fJ:=Yc.2 ⟨_,Vx (i:=m) (by rw[Xh,Vs hml];exact a7),rfl⟩;have ap:((a0.take j).map fR.fJ).any (fun y=>decide (y=yn))=H:=Xs.2 ⟨yn,this,gm⟩;rw[ap]
       rfl)
      clear a7;go_wp2_with(fail);go_quiet (fail);go_wp2_with(fail);go_ret;exact⟨zp (by rw[HQ.out,HF.out];rfl),(a1.trans a3).trans gF⟩
     ·have aL:(yn.toList == nm.toList)=M:=by rw[mb,Vp he]
      have HE:=fk he;have HYK:=fk a7;clear he a7;go_wp2_with(fail);go_quiet (fail);exact xr
    ·obtain rfl:m=j:=fh
     have aN:=zd u0 a2 d2;have aC:=zd u1 a2 d2;have aO:=zd v1 a2 d2;have aP:=zd v2 a2 d2
     have au:((a0.take m).map fR.fJ).any (fun y=>decide (y=nm))=M:=by
      cases hcc:((a0.take m).map fR.fJ).any (fun y=>decide (y=nm))
      ·rfl
      ·obtain⟨yn,hyn,hye2⟩:=Xs.1 hcc
       exact wU
     have a4:=a9.out;rw[au] at a4;simp only[Zm,XX] at a4;clear hne a9;have a6:(code.extract a (a+z)).size<=1099511627776:=by rw[YM];omega
     obtain⟨b,hb⟩:∃ b,mF (code.extract a (a+z)) 0=b:=⟨_,rfl⟩
     rw[hb] at a4;have HB:=fk hb;have w1:Vl Z ((a:Int)+(z:Int))=(a:Int)+(z:Int):=WI _ fh;have w2:(a:Int)+(z:Int)<=(code.size:Int):=fh;have w3:(a:Int)<=(a:Int)+(z:Int):=fh;have w4:(0:Int)<=(a:Int)+(z:Int):=fh;clear hb;cases b with
     | false=>
      have HF:=fk (show kD code a0 [] 0=M from by rw[a4];rfl);clear a4;go_wp2_with(go_at_call 134;refine(zyY (code.extract a (a+z)) _ a6).mono ?_;rw[HB.out];rintro e w4 ⟨A4,n4,c4,rfl,aB,d4,rfl⟩);go_ret;exact⟨zp (by rw[HQ.out,HF.out];rfl),(a1.trans a3).trans gF⟩
     | true=>
      have HF:=fk (show kD code (a0.drop (m+1)) ((a0.take (m+1)).map fR.fJ) (a+z)=kD code a0 [] 0 from by rw[a4];simp);clear a4;go_wp2_with(go_at_call 134;refine(zyY (code.extract a (a+z)) _ a6).mono ?_;rw[HB.out];rintro e w4 ⟨A4,n4,c4,rfl,aB,d4,rfl⟩);go_roundw;exact⟨m+1,a+z,io,io,fh,fh,HF,fk (a3.trans gF)⟩;exact iC
  ·obtain rfl:j=a0.length:=fh
   have a5:=hE.out;rw[VW] at a5;have z0:=zd y0 os d;have z1:=zd y1 os d;by_cases h:a=code.size
   ·subst h
    have HF:=fk (show kI ⟨code,a0⟩=decide ((code.size:Int)<=1000000) from by
     rw[HQ.out,<-a5];simp only[kD]
     simp;omega)
    clear hE a5;go_wp2_with(fail);go_ret;exact⟨zp (by rw[HF.out];try simp),a1.trans gF⟩
   ·have HF:=fk (show kI ⟨code,a0⟩=M from by
     rw[HQ.out,<-a5]
     simp[kD,h])
    have p9:((a:Int) == (code.size:Int))=M:=by simp;omega
    clear hE a5;go_wp2_with(fail);go_ret;exact⟨zp (by rw[HF.out];try simp),a1.trans gF⟩
end Go.Proofs.YthgbglbaemelhaaGreat
