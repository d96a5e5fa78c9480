/-
  PART.
-/
import Derived.Test.YthgbglbaemelhaaGreatM9LawSlices
set_option linter.unusedVariables false
set_option linter.unusedSimpArgs false
set_option maxRecDepth 100000
set_option maxHeartbeats 8000000
namespace Go.Proofs.YthgbglbaemelhaaGreat
open Value renaming int->J
open IntKind renaming i64->C
open Option renaming some->Z,getD_some->Sq
open Bool renaming false->I,true->M
open Go renaming World->U,Calls->Rh
open _root_.Int renaming toNat_natCast->Ra
open List renaming replicate->Ro,foldl_cons->TC
open RowKit renaming wrap64->Sf
open Tryz
open Go.RowKit
variable {QK e f v w:Nat}{a b:fS}{fs:Q Int}{k:Int}{p:Q fv}{s:fG}
theorem pI {g:Prop} (f:g:=by
  go_enter func177,ntmps177
  go_wp2_with(go_at_call 197;first
   | (with_reducible refine(zcU (x:=a) ha).mono ?_;rw[HA.out];rintro e w1 ⟨rfl,rfl⟩)
   | (with_reducible refine(zcU (x:=b) hb).mono ?_;rw[HB.out];rintro e w1 ⟨rfl,rfl⟩))
  rw[HQ.out]
  go_ret
  exact⟨rfl,rfl⟩):g:=f
theorem vj {g:Prop} (f:g:=by
  have h1:(A*B).natAbs<=2147483648*2147483648:=by rw[Int.natAbs_mul];exact UD (by omega) (by omega)
  omega):g:=f
theorem zgF {a b:Int} {w:U} (hk:2<=k/\k<=6)(ha:fD a)(hb:fD b):Rh prog 177 #[J C k,J C a,J C b] w fun r w'=>r=.returned (J C (zR (k+3) a b))/\w'=w:=by
 obtain⟨A,hA⟩:∃ A,jJ a=A:=⟨_,rfl⟩
 obtain⟨B,hB⟩:∃ B,jJ b=B:=⟨_,rfl⟩
 have bA:=yj a;have bB:=yj b;rw[hA] at bA;rw[hB] at bB;have HA:=fh hA;have HB:=fh hB;have a0:k=2∨k=3∨k=4∨k=5∨k=6:=by omega
 have a2:Sf (A+B)=A+B:=by unfold Sf;omega
 have a3:Sf (A-B)=A-B:=by unfold Sf;omega
 have a1 : -4611686018427387904<=A*B/\A*B<=4611686018427387904:=by
  exact vj
 have a4:Sf (A*B)=A*B:=by unfold Sf;omega
 have j1:fD (A+B):=⟨by omega,by omega⟩
 have j2:fD (A-B):=⟨by omega,by omega⟩
 have j3:fD (A*B):=⟨by omega,by omega⟩
 clear hA hB;rcases a0 with rfl | rfl | rfl | rfl | rfl
 ·have HQ:=fh (show zR (2+3) a b=jJ (A+B) from by unfold zR;rw[HA.out,HB.out];rfl)
  go_enter func177,ntmps177
  go_wp2_with(go_at_call 197;first
   | (with_reducible refine(zcU (x:=a) ha).mono ?_;rw[HA.out];rintro e w1 ⟨rfl,rfl⟩)
   | (with_reducible refine(zcU (x:=b) hb).mono ?_;rw[HB.out];rintro e w1 ⟨rfl,rfl⟩)
   | (with_reducible refine(zcU (x:=A+B) j1).mono ?_;rintro e w1 ⟨rfl,rfl⟩))
  rw[HQ.out];go_ret;exact⟨rfl,rfl⟩
 ·have HQ:=fh (show zR (3+3) a b=jJ (A-B) from by unfold zR;rw[HA.out,HB.out];rfl)
  go_enter func177,ntmps177
  go_wp2_with(go_at_call 197;first
   | (with_reducible refine(zcU (x:=a) ha).mono ?_;rw[HA.out];rintro e w1 ⟨rfl,rfl⟩)
   | (with_reducible refine(zcU (x:=b) hb).mono ?_;rw[HB.out];rintro e w1 ⟨rfl,rfl⟩)
   | (with_reducible refine(zcU (x:=A-B) j2).mono ?_;rintro e w1 ⟨rfl,rfl⟩))
  rw[HQ.out];go_ret;exact⟨rfl,rfl⟩
 ·have HQ:=fh (show zR (4+3) a b=jJ (A*B) from by unfold zR;rw[HA.out,HB.out];rfl)
  go_enter func177,ntmps177
  go_wp2_with(go_at_call 197;first
   | (with_reducible refine(zcU (x:=a) ha).mono ?_;rw[HA.out];rintro e w1 ⟨rfl,rfl⟩)
   | (with_reducible refine(zcU (x:=b) hb).mono ?_;rw[HB.out];rintro e w1 ⟨rfl,rfl⟩)
   | (with_reducible refine(zcU (x:=A*B) j3).mono ?_;rintro e w1 ⟨rfl,rfl⟩))
  rw[HQ.out];go_ret;exact⟨rfl,rfl⟩
 ·by_cases q:A<B
  ·have HQ:=fh (show zR (5+3) a b=1 from by unfold zR;rw[HA.out,HB.out];exact Q5 q)
   exact pI
  ·have HQ:=fh (show zR (5+3) a b=0 from by unfold zR;rw[HA.out,HB.out];exact QZ q)
   exact pI
 ·by_cases q:A=B
  ·have HQ:=fh (show zR (6+3) a b=1 from by unfold zR;rw[HA.out,HB.out];exact Q5 q)
   exact pI
  ·have HQ:=fh (show zR (6+3) a b=0 from by unfold zR;rw[HA.out,HB.out];exact QZ q)
   exact pI
theorem pJ {g:Prop} (f:g:=by
  go_enter func142,ntmps142
  go_wp2_with(go_at_call 181;first
   | (with_reducible refine(zcV (x:=a) ha).mono ?_;rw[HA.out];rintro e w1 ⟨rfl,rfl⟩)
   | (with_reducible refine(zcV (x:=b) hb).mono ?_;rw[HB.out];rintro e w1 ⟨rfl,rfl⟩))
  rw[HQ.out]
  go_ret
  exact⟨rfl,rfl⟩):g:=f
theorem ztP {a b:Int} {w:U} (hk:2<=k/\k<=6)(ha:fD a)(hb:fD b):Rh prog 142 #[J C k,J C a,J C b] w fun r w'=>r=.returned (J C (zR (k+3) a b))/\w'=w:=by
 obtain⟨A,hA⟩:∃ A,jJ a=A:=⟨_,rfl⟩
 obtain⟨B,hB⟩:∃ B,jJ b=B:=⟨_,rfl⟩
 have bA:=yj a;have bB:=yj b;rw[hA] at bA;rw[hB] at bB;have HA:=fh hA;have HB:=fh hB;have a0:k=2∨k=3∨k=4∨k=5∨k=6:=by omega
 have a2:Sf (A+B)=A+B:=by unfold Sf;omega
 have a3:Sf (A-B)=A-B:=by unfold Sf;omega
 have a1 : -4611686018427387904<=A*B/\A*B<=4611686018427387904:=by
  exact vj
 have a4:Sf (A*B)=A*B:=by unfold Sf;omega
 have j1:fD (A+B):=⟨by omega,by omega⟩
 have j2:fD (A-B):=⟨by omega,by omega⟩
 have j3:fD (A*B):=⟨by omega,by omega⟩
 clear hA hB;rcases a0 with rfl | rfl | rfl | rfl | rfl
 ·have HQ:=fh (show zR (2+3) a b=jJ (A+B) from by unfold zR;rw[HA.out,HB.out];rfl)
  go_enter func142,ntmps142
  go_wp2_with(go_at_call 181;first
   | (with_reducible refine(zcV (x:=a) ha).mono ?_;rw[HA.out];rintro e w1 ⟨rfl,rfl⟩)
   | (with_reducible refine(zcV (x:=b) hb).mono ?_;rw[HB.out];rintro e w1 ⟨rfl,rfl⟩)
   | (with_reducible refine(zcV (x:=A+B) j1).mono ?_;rintro e w1 ⟨rfl,rfl⟩))
  rw[HQ.out];go_ret;exact⟨rfl,rfl⟩
 ·have HQ:=fh (show zR (3+3) a b=jJ (A-B) from by unfold zR;rw[HA.out,HB.out];rfl)
  go_enter func142,ntmps142
  go_wp2_with(go_at_call 181;first
   | (with_reducible refine(zcV (x:=a) ha).mono ?_;rw[HA.out];rintro e w1 ⟨rfl,rfl⟩)
   | (with_reducible refine(zcV (x:=b) hb).mono ?_;rw[HB.out];rintro e w1 ⟨rfl,rfl⟩)
   | (with_reducible refine(zcV (x:=A-B) j2).mono ?_;rintro e w1 ⟨rfl,rfl⟩))
  rw[HQ.out];go_ret;exact⟨rfl,rfl⟩
 ·have HQ:=fh (show zR (4+3) a b=jJ (A*B) from by unfold zR;rw[HA.out,HB.out];rfl)
  go_enter func142,ntmps142
  go_wp2_with(go_at_call 181;first
   | (with_reducible refine(zcV (x:=a) ha).mono ?_;rw[HA.out];rintro e w1 ⟨rfl,rfl⟩)
   | (with_reducible refine(zcV (x:=b) hb).mono ?_;rw[HB.out];rintro e w1 ⟨rfl,rfl⟩)
   | (with_reducible refine(zcV (x:=A*B) j3).mono ?_;rintro e w1 ⟨rfl,rfl⟩))
  rw[HQ.out];go_ret;exact⟨rfl,rfl⟩
 ·by_cases q:A<B
  ·have HQ:=fh (show zR (5+3) a b=1 from by unfold zR;rw[HA.out,HB.out];exact Q5 q)
   exact pJ
  ·have HQ:=fh (show zR (5+3) a b=0 from by unfold zR;rw[HA.out,HB.out];exact QZ q)
   exact pJ
 ·by_cases q:A=B
  ·have HQ:=fh (show zR (6+3) a b=1 from by unfold zR;rw[HA.out,HB.out];exact Q5 q)
   exact pJ
  ·have HQ:=fh (show zR (6+3) a b=0 from by unfold zR;rw[HA.out,HB.out];exact QZ q)
   exact pJ
def m9 (l l':Q fP):Prop:=∀ x,l[0]?=Z x->∃ y,l'[0]?=Z y/\y.fH=x.fH
theorem m9.refl (l:Q fP):m9 l l:=fun x h=>⟨x,h,rfl⟩
theorem m9.trans {a b c:Q fP}(h:m9 a b)(k:m9 b c):m9 a c:=fun x hx=>by
 obtain⟨y,h1,h2⟩:=h x hx;obtain⟨z,h3,h4⟩:=k y h1;exact⟨z,h3,h4.trans h2⟩
theorem m9.app (l r:Q fP):m9 l (l++r):=fun x h=>⟨x,by rw[RY (QM.1 h).1];exact h,rfl⟩
theorem m9.set (l:Q fP)(j:Nat)(v:Int):m9 l (mw l j v):=fun x h=>by
 unfold mw;cases hy:l[j]? with
 | none=>exact⟨x,h,rfl⟩
 | some y=>
  simp only;by_cases hj:j=0
  ·subst hj
   rw[h] at hy;injection hy with hy
   subst hy;exact⟨{ x with Op:=⟨x.Op.Code,v⟩ },by rw[Tp (QM.1 h).1],rfl⟩
  ·exact⟨x,by rw[TX hj];exact h,rfl⟩
theorem Er:∀(js:Q Int)(l:Q fP)(v:Int),m9 l (pN l js v)
 | [],l,v=>.refl l
 | j::js,l,v=>(m9.set l j.toNat v).trans (Er js _ v)
theorem Cj:∀(es:Q (Int × Int))(l:Q fP)(tgt v:Int),m9 l (nU l es tgt v)
 | [],l,tgt,v=>.refl l
 | e::es,l,tgt,v=>by
  unfold nU;simp only[TC];split
  ·exact(m9.set l e.2.toNat v).trans (Cj es _ tgt v)
  ·exact Cj es l tgt v
structure jt (QK w:Nat)(m m':fS):Prop where
 cnt:max m'.items.length QK<=max m.items.length QK+w
 fst:m9 m.items m'.items
theorem jt.refl {QK:Nat}(m:fS):jt QK 0 m m:=⟨by omega,.refl _⟩
theorem jt.trans {QK w v:Nat}{a b c:fS}(h:jt QK w a b)(k:jt QK v b c):jt QK (w+v) a c:=⟨by have:=h.cnt;have:=k.cnt;omega,h.fst.trans k.fst⟩
theorem jt.more (h:jt QK w a b)(hv:w<=v):jt QK v a b:=⟨by have:=h.cnt;omega,h.fst⟩
theorem jt.of (h:b.items.length<=a.items.length+w)(hf:m9 a.items b.items):jt QK w a b:=⟨by omega,hf⟩
theorem CK (E:fW)(m:fS)(c a l:Int)(ch:Q Int):jt QK 1 m (zB E m c a l ch):=.of (by rw[wJ];omega) (m9.app _ _)
theorem sD (E:fW)(m:fS)(c a l d:Int)(ch:Q Int):jt QK 1 m ((zB E m c a l ch).gw d):=.of (by simp only[fS.gw,wJ];omega) (m9.app _ _)
theorem Cb (E:fW)(m:fS)(v l:Int)(ch:Q Int):jt QK 1 m (lZ E m v l ch):=sD ..
theorem Cu (E:fW)(m:fS)(s:fG)(i l:Int)(ch:Q Int):jt QK 1 m (mW E m s i l ch):=sD ..
theorem NJ (E:fW)(m:fS)(s:fG)(i l:Int):jt QK 1 m (Bj E m s i l):=sD ..
theorem Gn (m:fS)(es:Q (Int × Int))(t:Int):jt QK 0 m (lD m es t):=.of (by show (nU m.items es t m.items.length).length<=_;rw[(s9 _ _ _ _).2];omega) (Cj _ _ _ _)
theorem Gm (E:fW)(s:fG)(k:Int)(last:Bool)(L:je):jt QK 1 L.m (kN E s k last L).m:=by
 unfold kN;split
 ·split <;> exact sD ..
 ·split
  ·exact .of (by simp[je.wm,fS.gw]) (.refl _)
  ·exact sD ..
def vW (E:fW)(rep:Int->fS->fS)(fs:Q Int)(QK:Nat):Prop:=∀(g:Int)(m:fS),isFun E.p g->mP E fs m g=M->jt QK 0 m (rep g m)
theorem PA {E:fW} {rep:Int->fS->fS} {t:gB} {m:fS} (hr:vW E rep fs QK)(hn:zP E.p s.locals t=M):jt QK 1 m (oz E rep fs s k t m):=by
 unfold oz;split
 ·exact Cb ..
 ·split
  ·exact NJ ..
  ·split
   ·rename_i h7
    split
    ·rename_i hrep
     obtain⟨i,x,h1,h2,h3,_⟩:=Bx hn h7;exact(hr _ m ⟨i,h1,x,h2,h3⟩ hrep).more (by omega)
    ·exact sD ..
   ·exact sD ..
mutual
theorem Ex.jG {E:fW}{rep:Int->fS->fS}{fs:Q Int}{s:fG}{k:Int}{QK:Nat}(hr:vW E rep fs QK):∀(e:Ex)(m:fS),zQ E.p s.locals e.flat=M->jt QK e.size m (e.comp E rep fs s k m)
 | .node t ks,m,hn=>by
  simp only[Ex.flat,zQ,List.all_cons,Q4] at hn;exact((gk.jG hr ks m hn.2).trans (PA hr hn.1)).more (by simp only[Ex.size];omega)
theorem gk.jG {E:fW}{rep:Int->fS->fS}{fs:Q Int}{s:fG}{k:Int}{QK:Nat}(hr:vW E rep fs QK):∀(ks:gk)(m:fS),zQ E.p s.locals ks.flat=M->jt QK ks.size m (ks.comp E rep fs s k m)
 | .nil,m,_=>.refl m
 | .cons e r,m,hn=>by
  simp only[gk.flat,zQ,TQ,Q4] at hn;exact((Ex.jG hr e m hn.1).trans (gk.jG hr r _ hn.2)).more (by simp only[gk.size];omega)
end
theorem EN {QK:Nat}(E:fW)(x:fG)(k:Int)(ch:Q Int):∀(n:Nat)(m:fS),jt QK n m (qV E x k ch n m)
 | 0,m=>.refl m
 | n+1,m=>by
  unfold qV;exact((Cu E m x n k ch).trans (EN E x k ch n _)).more (by omega)
theorem E2 {QK:Nat}(E:fW)(x:fG)(k:Int)(ch:Q Int):∀(n i:Nat)(m:fS),jt QK (2*n) m (sS E x k ch n i m)
 | 0,i,m=>.refl m
 | n+1,i,m=>by
  unfold sS;exact(((Cb E m 0 k ch).trans (Cu E _ x i k ch)).trans (E2 E x k ch n (i+1) _)).more (by omega)
theorem MW {E:fW} (hE:gP E){g k:Int}(hg:isFun E.p g)(s:fG)(m:fS):jt QK 21 m (qF E g k s m):=by
 have hp:=hg.parts hE;have a0:(kD E g k s).locals=zq E.p g:=rfl;have h1:=EN (QK:=QK) E (kD E g k s) k s.chain (zZ E.p g).length (m.ke (max m.gL (oV E s+(kD E g k s).locals.length)));have h2:=E2 (QK:=QK) E (kD E g k s) k s.chain ((kD E g k s).locals.length-(zZ E.p g).length) (zZ E.p g).length (qV E (kD E g k s) k s.chain (zZ E.p g).length (m.ke (max m.gL (oV E s+(kD E g k s).locals.length))));have h0:jt QK 0 m (m.ke (max m.gL (oV E s+(kD E g k s).locals.length))):=.of (by simp[fS.ke]) (.refl _);rw[a0] at h0 h1 h2;unfold qF;simp only;rw[a0];split
 ·exact(((h0.trans h1).trans h2).trans (CK ..)).more (by omega)
 ·exact((h0.trans h1).trans h2).more (by omega)
theorem NI {E:fW} {rep:Int->fS->fS} {k:Nat} {x:fv} {L:je} (hE:gP E)(hr:vW E rep fs QK)(hx:E.p[k]?=Z x)(h7:x.Expr.length<=7)(h0:x.Kind≠0)(hn:x.Kind≠7->zQ E.p s.locals x.Expr=M):jt QK 8 L.m (lF E rep fs s e k x L).m:=by
 have g0:=Gn (QK:=QK) L.m L.fR k;unfold lF;simp only;split
 ·exact((g0.trans (CK ..)).trans (Gn ..)).more (by omega)
 ·rename_i k4
  split
  ·split
   ·exact((g0.trans (Cb ..)).trans (Gm (L:=L.wm _) ..)).more (by omega)
   ·refine(g0.trans (?_:jt QK 1 _ _)).more (by omega)
    show jt QK 1 _ (ns _ _ _ _ _ _ _);rcases yL E k s.chain L.fN (k-(s.f.toNat+1)) (s.f.toNat+1) (lD L.m L.fR k) with⟨h,_⟩ | ⟨j,_,_,_,_,h⟩
    ·rw[h];exact(jt.refl _).more (by omega)
    ·rw[h];exact CK ..
  ·rename_i k7
   obtain⟨ee,w1,w2,_⟩:=hE.pc.expr k x hx (Ck (zu.1 (hE.pc.kind k x hx)) h0 k4 k7);have a0:ee.size<=7:=by rw[<-ee.gj,<-w2];exact h7
   have g1:=Ex.jG (k:=(k:Int)) hr ee (lD L.m L.fR k).begun (by rw[<-w2];exact hn k7);rw[<-AA w1,<-w2] at g1;have g2:jt QK 7 L.m (sW E rep fs s k x.Expr (lD L.m L.fR k).begun):=(g0.trans (jt.trans (b:=(lD L.m L.fR k).begun) (jt.of (w:=0) (by simp[fS.begun]) (.refl _)) g1)).more (by omega);split
   ·exact g2.trans (Cu ..)
   ·split
    ·exact g2.trans (sD ..)
    ·split
     ·exact g2.trans (Gm (L:=⟨_,_,_,_⟩) ..)
     ·exact g2.trans (sD ..)
def ov (p:Q fv):Prop:=∀(i:Nat)(x:fv),p[i]?=Z x->x.Expr.length<=7
theorem MX {E:fW} {rep:Int->Int->fS->fS} {i:Nat} (hE:gP E)(hS:ov E.p)(hs:iu E s)(hr:∀ k:Nat,k<E.p.length->vW E (rep k) fs QK)(hf:s.f=(i:Int))(he:gz E.p i e) :
  ∀(n k:Nat) (L:je),i<k->k+n=e+1->jt QK (8*n) L.m (pQ E rep fs s e (E.p.drop k) n k L).m:=by
 intro n;induction n with
 | zero=>
  intro k L _ _;have:pQ E rep fs s e (E.p.drop k) 0 k L=L:=by cases E.p.drop k <;> rfl
  rw[this];exact .refl _
 | succ n ih=>
  intro k L a4 a7;have a2:k<E.p.length:=by have:=he.len;omega
  have hx:E.p[k]?=Z E.p[k]:=QW a2;rw[Q6 a2];obtain⟨i',e',z,w1,w2,w3,w4,w5⟩:=hs.qN;have a6:i'=i:=by rw[hf] at w1;omega
  subst a6;have a5:=w4.uniq he;subst a5;have a3:s.locals=zq E.p i':=by rw[hs.locals.1,hf]
  have a0:k=e'∨k<e':=by omega
  have a1:k=e'->(E.p[k]).Kind=7:=fun h=>by
   subst h;obtain⟨y,hy,h7⟩:=he.last;rw[hx] at hy;injection hy with hy
   rw[hy];exact h7
  have g1:=NI (L:=L) (e:=e') (fs:=fs) (s:=s) hE (hr k a2) hx (hS k _ hx)
   (fun h=>by
    rcases a0 with hk | hk
    ·have:=a1 hk;omega
    ·exact(w5 k _ a4 hk hx).1 h)
   (fun h=>by
    rcases a0 with hk | hk
    ·exact absurd (a1 hk) h
    ·rw[a3];exact(w5 k _ a4 hk hx).2.1)
  exact(g1.trans (ih (k+1) _ (by omega) (by omega))).more (by omega)
def vC (d:Nat):Nat:=200+93*d
theorem jt.floor (h:jt QK w a b)(ha:a.items.length<=v)(hb:v<=QK):b.items.length<=QK+w:=by have:=h.cnt;omega
def CS (E:fW)(lines:Q Int->fG->fS->fS × Q Int)(QK:Nat)(d:Nat):Prop:=∀(fs:Q Int)(s:fG)(m:fS)(i e:Nat),iu E s->fs.length=s.chain.length+1->s.chain.length+d=3->s.f=(i:Int)->gz E.p i e->jt QK (8*(e-i)) m (lines fs s m).1
theorem J6 {E:fW} {lines:Q Int->fG->fS->fS × Q Int} {k d:Nat} (hE:gP E)(hs:iu E s)(hl:CS E lines QK d)(hN:200<=QK)(hfs:fs.length=s.chain.length+1)(hd:s.chain.length+(d+1)=3)(hk:k<E.p.length):vW E (fun g m=>jL E lines fs k s g m) fs (QK+93):=by
 intro g m hg a0;have a4:=vE a0;have a3:0<=(k:Int)/\(k:Int)<E.p.length:=⟨by omega,by omega⟩
 have hx:=AT hE hs hg a3 (by omega);have g1:=MW (QK:=QK) (k:=k) hE hg s m;obtain⟨i,rfl,x,a6,a5⟩:=hg;obtain⟨e,he,_,_⟩:=hE.pc.body i x a6 a5;have a2:=a4.2.1;rw[he.iS] at a2;have a1:(kD E i k s).chain.length=s.chain.length+1:=by unfold kD;simp
 have g2:=hl (fs++[(i:Int)]) (kD E i k s) (qF E i k s m) i e hx (by rw[a1];simp[hfs]) (by rw[a1];omega) rfl he;have g3:=(g1.trans g2).floor (v:=200) (by omega) hN;unfold jL;simp only;refine⟨?_,((g1.trans g2).fst).trans (Er _ _ _)⟩;simp only[fS.gw,fS.iK,(yJ _ _ _).2];omega
theorem EW {E:fW} (hE:gP E)(hS:ov E.p){d QK:Nat}(hrep:∀(fs:Q Int)(s:fG)(k:Nat),iu E s->fs.length=s.chain.length+1->s.chain.length+d=3->k<E.p.length->vW E (fun g m=>jL E (iX E d) fs k s g m) fs QK):CS E (iX E (d+1)) QK d:=by
 intro fs s m i e hs a1 a2 hf he;have a3:=he.lt;have g1:=MX (rep:=fun k g m=>jL E (iX E d) fs k s g m) (fs:=fs) hE hS hs (fun k hk=>hrep fs s k hs a1 a2 hk) hf he (e-i) (i+1) ⟨m,s.leaves,Ro E.p.length 0,[]⟩ (by omega) (by omega)
 have a0:(iX E (d+1) fs s m).1=(pQ E (fun k g m=>jL E (iX E d) fs k s g m) fs s e (E.p.drop (i+1)) (e-i) (i+1) ⟨m,s.leaves,Ro E.p.length 0,[]⟩).m:=by
  show (vT E (fun fs s k g m=>jL E (iX E d) fs k s g m) fs s m).1=_;unfold vT;simp only[hf,he.iS,Ra]
 rw[a0];exact g1
theorem Jj {E:fW} (hE:gP E)(hS:ov E.p):∀ d:Nat,CS E (iX E (d+1)) (vC d) d:=by
 intro d;induction d with
 | zero=>
  refine EW hE hS (fun fs s k hs hfs hd hk=>?_);intro g m _ a0;have h1:=(vE a0).1;have h2:=hE.inl.2;omega
 | succ d ih=>
  refine EW hE hS (fun fs s k hs hfs hd hk=>?_);have h:=J6 hE hs ih (by unfold vC;omega) hfs hd hk;rw[show vC d+93=vC (d+1) from by unfold vC;omega] at h;exact h
theorem Ke {b:fV} {words:Int} (hp:j9 p)(hS:ov p)(hb:fT b.Inline 0 3=M)(hf:f<(zp p).length)(hw:0<=words/\words<=100) :
  (kQ p b f words).1.length<=951/\∃ x g,(kQ p b f words).1[0]?=Z x/\(zp p)[f]?=Z g/\x.fH=g:=by
 have hg:(zp p)[f]?=Z (zp p)[f]:=QW hf;have hfun:=vH hg;rw[hg];unfold kQ;rw[hg];simp only[Sq];generalize (zp p)[f]=g at hfun
 have hE:gP ⟨p,b.Inline,ll b f,words,((zZ p g).length:Int)⟩:=by
  exact uW
 have a0:=hfun.parts hE;simp only at a0;obtain⟨i,rfl,x,hx,h0⟩:=hfun;obtain⟨e,he,h8,hbody⟩:=hp.body i x hx h0;generalize hEE:(⟨p,b.Inline,ll b f,words,((zZ p (i:Int)).length:Int)⟩:fW)=E at hE;have hEp:E.p=p:=by rw[<-hEE]
 have hEa:E.args=((zZ p (i:Int)).length:Int):=by rw[<-hEE]
 have a7:=(QM.1 hx).1
 have hs:iu E ⟨i,[],zq p i,0,M,[]⟩:=by
  exact uA
 have a2:((zB E ⟨[],0,((zq p i).length:Int)-((zZ p (i:Int)).length:Int),I⟩ (if ll b f=M then 13 else 15) words i []).gw words).items.length=1:=by simp[zB,fS.gw]
 have a1:∃ x,((zB E ⟨[],0,((zq p i).length:Int)-((zZ p (i:Int)).length:Int),I⟩ (if ll b f=M then 13 else 15) words i []).gw words).items[0]?=Z x/\x.fH=(i:Int):=⟨_,rfl,rfl⟩
 generalize (zB E ⟨[],0,((zq p i).length:Int)-((zZ p (i:Int)).length:Int),I⟩ (if ll b f=M then 13 else 15) words i []).gw words=QE at a2 a1 |-;have hL:=(Jj hE (by rw[hEp];exact hS) 3) [(i:Int)] ⟨i,[],zq p i,0,M,[]⟩ QE i e hs rfl rfl rfl (by rw[hEp];exact he);have h5:=he.len;have h6:=hp.len;have h7:=hL.floor (v:=1) (by omega) (by unfold vC;omega);unfold vC at h7;rw[show 3+1=4 from rfl] at h7;obtain⟨x0,a3,a4⟩:=a1;obtain⟨y0,a5,a6⟩:=hL.fst x0 a3;exact⟨by omega,y0,(i:Int),a5,rfl,a6.trans a4⟩
theorem Kf {b:fV} (hp:zv p=M)(hS:ov p)(hb:jM b=M)(hf:f<(zp p).length):(ki p b f).length<=951/\∃ x g,(ki p b f)[0]?=Z x/\(zp p)[f]?=Z g/\x.fH=g:=by
 have hF:=qj hp;unfold jM at hb;rw[Q4] at hb
 have a2:∀ q:Q fv,j9 q->ov q->f<(zp q).length->(kQ q b f (kQ q b f 0).2).1.length<=951/\∃ x g,(kQ q b f (kQ q b f 0).2).1[0]?=Z x/\(zp q)[f]?=Z g/\x.fH=g:=by
  intro q hq a3 a1;obtain⟨_,_,_,h4,h5⟩:=yM (words:=0) hq hb.2 a1 ⟨by omega,by omega⟩;exact Ke hq a3 hb.2 a1 ⟨h4,by omega⟩
 unfold ki;simp only;split
 ·have a4:qo p=p.map jU:=by unfold qo;rw[Q5 hp]
  rw[a4];have a0:=a2 _ hF.fold ?_ (by rw[xD];exact hf)
  ·rw[xD] at a0
   exact a0
  intro i y hy;obtain⟨x,hx,rfl⟩:=tu hy;have h7:=hS i x hx;unfold jU;split
  ·rename_i hl
   by_cases he:qX x.Kind=M
   ·have h1:=(rT (hF.line i x hx)).2.2.2
    unfold rp at h1;rw[Q5 he] at h1;obtain⟨e,g1,g2,g3,g4⟩:=yH h1;obtain⟨e',w1,w2,w3⟩:=e.ic g1;simp only;rw[g4,<-w2,e'.gj];rw[g2,e.gj] at h7;omega
   ·have h1:=(rT (hF.line i x hx)).2.2.2
    unfold rp at h1;rw[QZ he] at h1;simp only[Rg] at h1;omega
  ·exact h7
 ·exact a2 _ hF.c hS hf
end Go.Proofs.YthgbglbaemelhaaGreat
