/-
  PART.
-/
import Derived.Test.YthgbglbaemelhaaGreatM25LawThreadsApart
set_option linter.unusedVariables false
set_option linter.unusedSimpArgs false
set_option maxRecDepth 100000
set_option maxHeartbeats 8000000
namespace Go.Proofs.YthgbglbaemelhaaGreat
open Value renaming slice->G,int->J
open IntKind renaming i64->Z,wrap->Rg
open Option renaming none->C,some->D
open Obj renaming cells->F
open Bool renaming false->I,true->M
open Go renaming World->U,results->Rv,Calls->RD,Addr->RJ,yielded->Th
open _root_.Int renaming toNat_natCast->Ry
open List renaming length_nil->RR
open RowKit renaming intOf->RS
open Region renaming wanted->RV,ready->Sn,noSelect->TZ,free->Wu
open Tryz
open Go.RowKit
variable {A0 A1 A2 A3 A4:X RJ}{L:Q Nat}{a st v:Int}{c0 c1 c2 c3 c4:Nat}{m m':fv}{s:gk}{w:U}{x:fO}
def nJ:Nat->fO->Q Int->fO × Q Int
 | 0,x,ts=>(x,ts)
 | f+1,x,ts=>if (mT x).2<0 then ((mT x).1,ts) else nJ f (mT x).1 (ts++[(mT x).2])
def rP (x:fO)(limit:Int):fO × Q Int:=if jq x=M/\fP limit 0 3000=M then nJ limit.toNat x [] else (x,[])
theorem Hc:∀(f:Nat)(x:fO)(ts:Q Int),zN (nJ f x ts).1<=zN x+f/\(nJ f x ts).2.length<=ts.length+f
 | 0,x,ts=>⟨Ru _,Ru _⟩
 | f+1,x,ts=>by
  have h:=Ia x;unfold nJ;split
  ·exact⟨by show zN (mT x).1<=_;omega,by show ts.length<=_;omega⟩
  ·have h2:=Hc f (mT x).1 (ts++[(mT x).2])
   have h3:(ts++[(mT x).2]).length=ts.length+1:=II;omega
theorem H8 (x:fO):∀(f k:Nat),-1<=(mG x f k).2/\(mG x f k).2<=x.fq.length
 | 0,k=>⟨by show (-1:Int)<=-1;omega,by show (-1:Int)<=_;omega⟩
 | f+1,k=>by
  cases hm:x.fq[(x.fR.toNat+k) % x.fq.length]? with
  | none=>
   have h:mG x (f+1) k=(x,-1):=by rw[mG,hm]
   rw[h];exact⟨by show (-1:Int)<=-1;omega,by show (-1:Int)<=_;omega⟩
  | some m=>
   by_cases hs:m.rc=0
   ·rw[Ak hm hs]
    have h1:=(Rd.1 hm).1;exact⟨by simp only;omega,by simp only;omega⟩
   ·rw[zw hm hs]
    exact H8 x f (k+1)
theorem PQ (x:fO) : -1<=(mT x).2/\(mT x).2<=x.fq.length:=H8 x _ _
section
variable {B:Q (Nat × Obj)} {Y W W':U} {gp:Nat} {x:fO} {A0 A1 A2 A3:X RJ} {c0 c1 c2 c3:Nat} {S0 S3:Q Nat}
theorem km.drop {B':Q (Nat × Obj)} (h:km B Y W gp x A0 c0 A1 c1 A2 c2 A3 c3 S0 S3)(hs:∀ p∈B',p∈B):km B' Y W gp x A0 c0 A1 c1 A2 c2 A3 c3 S0 S3:=
 ⟨h.box,h.sp,h.th,h.jj,h.g0,h.g3,h.fy,h.lg,h.l0,h.l3,fun p hp=>h.kb p (hs p hp)⟩
theorem km.only (h:km B Y W gp x A0 c0 A1 c1 A2 c2 A3 c3 S0 S3)(ho:fx L W W')(hL:∀ b∈L,b≠gp/\b∉S0/\b∉S3/\Y.heap.size<=b/\∀ p∈B,p.1≠b):km B Y W' gp x A0 c0 A1 c1 A2 c2 A3 c3 S0 S3:=
 ⟨(ho.block gp (blt h.box) (fun hm=>(hL gp hm).1 rfl)).trans h.box,h.sp.fJ ho (fun b hb hm=>(hL b hm).2.1 hb),h.th.fJ ho (fun b hb hm=>(hL b hm).2.2.1 hb),h.jj,h.g0,h.g3,ho.fy h.fy (fun b hb=>(hL b hb).2.2.2.1),h.lg,h.l0,h.l3,fun p hp=>by
  obtain⟨h1,h2⟩:=h.kb p hp
  exact⟨(ho.block p.1 (blt h1) (fun hm=>(hL p.1 hm).2.2.2.2 p hp rfl)).trans h1,h2⟩⟩
def Jw (W:U)(L:Q Nat):Q (Nat × Obj):=L.map fun b=>(b,(W.heap[b]?).getD (F #[] 0 (0,0)))
theorem km.beside (h:km B Y W gp x A0 c0 A1 c1 A2 c2 A3 c3 S0 S3)(hL:∀ b∈L,b<W.heap.size/\b≠gp/\b∉S0/\b∉S3):km (Jw W L++B) Y W gp x A0 c0 A1 c1 A2 c2 A3 c3 S0 S3:=
 ⟨h.box,h.sp,h.th,h.jj,h.g0,h.g3,h.fy,h.lg,h.l0,h.l3,fun p hp=>by
  rcases Rr.1 hp with h1 | h1
  ·obtain⟨b,hb,rfl⟩:=Ul.1 h1
   obtain⟨q0,q1,q2,q3⟩:=hL b hb;refine⟨?_,q1,q2,q3⟩;show W.heap[b]?=D ((W.heap[b]?).getD _);rw[Uw q0];rfl
  ·exact h.kb p h1⟩
theorem Has.beside {α:Type} {T:Ty α} {cs:Q Value} {y:α} {x':fO} {A0' A1' A2' A3':X RJ} {c0' c1' c2' c3':Nat} {S0' S3':Q Nat} (hH:Has T W cs y L)(hP:km (Jw W L++B) Y W' gp x' A0' c0' A1' c1' A2' c2' A3' c3' S0' S3') :
  Has T W' cs y L/\∀ b∈L,b<W'.heap.size/\b≠gp/\b∉S0'/\b∉S3':=by
 have hk:∀ b∈L,W'.heap[b]?=W.heap[b]?/\b≠gp/\b∉S0'/\b∉S3':=fun b hb=>by
  obtain⟨h1,h2,h3,h4⟩:=hP.kb (b,(W.heap[b]?).getD (F #[] 0 (0,0))) (RH _ (Ul.2 ⟨b,hb,rfl⟩));refine⟨?_,h2,h3,h4⟩;have hl:=hH.lt b hb;rw[h1];show D ((W.heap[b]?).getD _)=W.heap[b]?;rw[Uw hl];rfl
 refine⟨⟨T.gD hH.1 (fun b hb=>(hk b hb).1),hH.2⟩,fun b hb=>⟨?_,(hk b hb).2⟩⟩;have h1:=(hk b hb).1;have hl:=hH.lt b hb;rw[Uw hl] at h1;exact(blt h1)
end
def Hu:Value->Nat
 | G _ n _=>n
 | _=>0
def OK (p:fO × Q Int)(w:U)(e:Ending)(w':U):Prop:=∃ A0 c0 A1 c1 A2 c2 A3 c3 A4 c4 S0 S1,e=.returned (.tuple #[.agg #[G A0 p.1.fk.fo.length c0,G A1 p.1.fk.ft.length c1,G A2 p.1.fk.ii.length c2,G A3 p.1.fq.length c3,J Z p.1.fR,J Z p.1.EQ,J Z p.1.ws],G A4 p.2.length c4])/\
 Has nC w' [G A0 p.1.fk.fo.length c0,G A1 p.1.fk.ft.length c1,G A2 p.1.fk.ii.length c2,G A3 p.1.fq.length c3,J Z p.1.fR,J Z p.1.EQ,J Z p.1.ws] p.1 S0/\Has (zr.sl 3) w' [G A4 p.2.length c4] p.2 S1/\(∀ b∈S0,b∉S1)/\(∀ b∈S0,w.heap.size<=b)/\(∀ b∈S1,w.heap.size<=b)/\fu w w'
theorem Oc (h:zP m v=D m'):0<=m'.Sp/\m'.Sp<=1200/\m'.rc=m.rc/\m'.pm.length=m.pm.length:=by
 unfold zP at h;split at h
 ·rename_i hb
  have hb:=zu.1 hb;injection h with h
  subst h;exact⟨by simp only;omega,by simp only;omega,rfl,II⟩
 ·cases h
theorem Pg {p:fv × Int} (h:gX m=D p):0<=p.1.Sp/\p.1.Sp<=1200/\p.1.rc=m.rc/\p.1.pm.length=m.pm.length:=by
 unfold gX ll at h;split at h
 ·rename_i hb
  have hb:=zu.1 hb;cases hs:m.pm[m.Sp.toNat]? with
  | none=>rw[hs] at h;cases h
  | some v=>rw[hs] at h;injection h with h;subst h;exact⟨by simp only;omega,by simp only;omega,rfl,rfl⟩
 ·cases h
def oN (st:Int)(m:fv):Prop:=m.pm.length=1200/\0<=m.Sp/\m.Sp<=1200/\m.rc=st
theorem tj (hl:m.pm.length=1200/\m.rc=st)(h:zP m v=D m'):oN st m':=by
 have:=Oc h;unfold oN;omega
theorem qL {p:fv × Int} (hl:m.pm.length=1200/\m.rc=st)(h:gX m=D p):oN st p.1:=by
 have:=Pg h;unfold oN;omega
theorem ID (hl:oN st m)(h:ld m a v=D m'):oN st m':=by
 unfold ld at h;split at h
 ·injection h with h
  subst h;obtain⟨h1,h2,h3,h4⟩:=hl;exact⟨by simpa using h1,h2,h3,h4⟩
 ·cases h
theorem AY {st:Int}:∀(n:Nat){m m':fv},oN st m->ju n m=D m'->oN st m'
 | 0,m,m',hm,h=>by injection h with h;subst h;exact hm
 | n+1,m,m',hm,h=>by
  obtain⟨p,hp,h2⟩:=RB.1 h;exact AY n (qL ⟨hm.1,hm.2.2.2⟩ hp) h2
theorem CX {st:Int}:∀(n:Nat){m m':fv},oN st m->oA n m=D m'->oN st m'
 | 0,m,m',hm,h=>by injection h with h;subst h;exact hm
 | n+1,m,m',hm,h=>by
  obtain⟨p,hp,h2⟩:=RB.1 h;exact CX n (tj ⟨hm.1,hm.2.2.2⟩ hp) h2
theorem oN.two (h:oN st m):m.pm.length=1200/\m.rc=st:=⟨h.1,h.2.2.2⟩
theorem LG {es:Q Int} {c:Int} (hm:oN st m)(h:zA es m c a=D m'):oN st m':=by
 unfold zA at h;by_cases q0:c=0
 ·rw[Rs q0] at h
  exact tj hm.two h
 rw[Ro q0] at h;by_cases q1:c=1
 ·rw[Rs q1] at h
  obtain⟨v,_,h2⟩:=RB.1 h;exact tj hm.two h2
 rw[Ro q1] at h;by_cases q3:c=3
 ·rw[Rs q3] at h
  obtain⟨v,_,h2⟩:=RB.1 h;exact tj hm.two h2
 rw[Ro q3] at h;by_cases q2:c=2
 ·rw[Rs q2] at h
  obtain⟨p,h1,h2⟩:=RB.1 h;exact ID (qL hm.two h1) h2
 rw[Ro q2] at h;by_cases q4:c=4
 ·rw[Rs q4] at h
  obtain⟨p,h1,h2⟩:=RB.1 h;exact ID (qL hm.two h1) h2
 rw[Ro q4] at h;by_cases q10:c=10
 ·rw[Rs q10] at h
  injection h with h
  subst h;exact hm
 rw[Ro q10] at h;by_cases q11:c=11
 ·rw[Rs q11] at h
  obtain⟨p,h1,h2⟩:=SU.1 h;have h3:=qL hm.two h1;subst h2;split <;> exact h3
 rw[Ro q11] at h;by_cases q12:c=12
 ·rw[Rs q12] at h
  obtain⟨p,h1,h2⟩:=RB.1 h;obtain⟨e,_,h4⟩:=SU.1 h2;subst h4;exact tj (m':=p) hm.two h1
 rw[Ro q12] at h;by_cases q13:c=13
 ·rw[Rs q13] at h
  obtain⟨p,h1,h2⟩:=RB.1 h;exact CX _ (m:={ p with Fp:=p.Sp }) (tj (m':=p) hm.two h1) h2
 rw[Ro q13] at h;by_cases q15:c=15
 ·rw[Rs q15] at h
  exact CX _ hm h
 rw[Ro q15] at h;by_cases q14:c=14
 ·rw[Rs q14] at h
  obtain⟨p,h1,h⟩:=RB.1 h;obtain⟨q,h2,h⟩:=RB.1 h;obtain⟨r,h3,h⟩:=RB.1 h;obtain⟨d,h4,h5⟩:=RB.1 h;have k1:=qL hm.two h1;have k2:=qL (m:={ p.1 with Sp:=p.1.Fp }) k1.two h2;have k3:=qL (m:={ q.1 with Fp:=q.2 }) k2.two h3;have k4:=AY _ (m:={ r.1 with Pc:=r.2 }) k3 h4;exact tj k4.two h5
 rw[Ro q14] at h;by_cases q16:c=16
 ·rw[Rs q16] at h
  obtain⟨p,h1,h⟩:=RB.1 h;obtain⟨q,h2,h⟩:=RB.1 h;obtain⟨r,h3,h⟩:=RB.1 h;obtain⟨d,h4,h5⟩:=RB.1 h;have k1:=qL hm.two h1;have k2:=AY _ k1 h2;have k3:=qL k2.two h3;have k4:=AY _ (m:={ r.1 with Pc:=r.2 }) k3 h4;exact tj k4.two h5
 rw[Ro q16] at h;by_cases q17:c=17
 ·rw[Rs q17] at h
  obtain⟨p,h1,h2⟩:=SU.1 h;have h3:=qL hm.two h1;subst h2;exact h3
 rw[Ro q17] at h;obtain⟨p,h1,h⟩:=RB.1 h;obtain⟨q,h2,h3⟩:=RB.1 h;exact tj (qL (qL hm.two h1).two h2).two h3
theorem wX:zU m=M↔m.pm.length=1200/\(0<=m.Sp/\m.Sp<=1200)/\0<=m.rc/\m.rc<=2:=by
 unfold zU;rw[Rq,Rq,RC,zu,zu];exact Vj
theorem JR (s:gk){m:fv}(h:zU m=M):zU (ji s m)=M:=by
 obtain⟨h1,h2,h3,h4⟩:=wX.1 h;have a0:zU { m with rc:=2 }=M:=wX.2 ⟨h1,h2,II,II⟩;unfold ji;simp only;split
 ·exact a0
 ·rename_i i _
  split
  ·cases hp:(zA s.ii { m with Pc:=m.Pc+((je i.Code (loc s m.Pc).2).n:Int) } (je i.Code (loc s m.Pc).2).code (je i.Code (loc s m.Pc).2).arg).bind lf with
   | none=>exact a0
   | some m'=>
    obtain⟨m1,g1,g2⟩:=RB.1 hp;have g3:=LG (st:=m.rc) (show oN m.rc { m with Pc:=m.Pc+((je i.Code (loc s m.Pc).2).n:Int) } from⟨h1,h2.1,h2.2,rfl⟩) g1;obtain⟨k1,k2,k3,k4⟩:=g3;unfold lf at g2;split at g2
    ·obtain⟨v,_,g4⟩:=SU.1 g2
     subst g4;exact wX.2 ⟨k1,⟨k2,k3⟩,II,II⟩
    ·injection g2 with g2
     subst g2;exact wX.2 ⟨k1,⟨k2,k3⟩,by show 0<=m1.rc;omega,by show m1.rc<=2;omega⟩
  ·exact a0
def jA (s:gk):Nat->fv->Nat->fv × Nat
 | 0,m,n=>(m,n)
 | f+1,m,n=>if m.rc=0 then jA s f (ji s m) (n+1) else (m,n)
theorem Hd (s:gk):∀(f:Nat)(m:fv)(n k:Nat),(jA s f m n).1=(jA s f m k).1
 | 0,_,_,_=>rfl
 | f+1,m,n,k=>by
  unfold jA;split
  ·exact Hd s f _ _ _
  ·rfl
theorem Ek (x:fO):∀(f k:Nat),((mG x f k).1=x/\(mG x f k).2 = -1)∨∃(t:Nat)(m:fv)(mv:Bool),x.fq[t]?=D m/\m.rc=0/\mG x f k=(tD x t m mv,(t:Int))
 | 0,k=>.inl ⟨rfl,rfl⟩
 | f+1,k=>by
  cases hm:x.fq[(x.fR.toNat+k) % x.fq.length]? with
  | none=>
   have h:mG x (f+1) k=(x,-1):=by rw[mG,hm]
   rw[h];exact .inl ⟨rfl,rfl⟩
  | some m=>
   by_cases hs:m.rc=0
   ·exact .inr ⟨_,m,_,hm,hs,Ak hm hs⟩
   ·rw[zw hm hs]
    exact Ek x f (k+1)
theorem Fz (x:fO):((mT x).1=x/\(mT x).2 = -1)∨∃(t:Nat)(m:fv)(mv:Bool),x.fq[t]?=D m/\m.rc=0/\mT x=(tD x t m mv,(t:Int)):=Ek x _ _
def kW (l:Q Int)(t:Int):Nat:=(l.filter fun k=>decide (k=t)).length
theorem Fl:∀(f:Nat)(x:fO)(ts:Q Int),∃ l,(nJ f x ts).2=ts++l/\l.length<=f/\(nJ f x ts).1.fk=x.fk/\(nJ f x ts).1.ws=x.ws/\(nJ f x ts).1.fq.length=x.fq.length/\
  ∀(t:Nat) (m:fv),x.fq[t]?=D m->(nJ f x ts).1.fq[t]?=D (jA x.fk (kW l t) m 0).1
 | 0,x,ts=>⟨[],by simp[nJ],Ru _,rfl,rfl,rfl,fun t m h=>h⟩
 | f+1,x,ts=>by
  unfold nJ;rcases Fz x with⟨h1,h2⟩ | ⟨t,m,mv,hm,hs,ht⟩
  ·rw[Rs K9,h1]
   exact⟨[],II,Rl _,rfl,rfl,rfl,fun t m h=>h⟩
  ·rw[ht]
   simp only;rw[Ro K9];obtain⟨l,g1,g0,g2,g3,g4,g5⟩:=Fl f (tD x t m mv) (ts++[(t:Int)]);have a0:(tD x t m mv).fq=x.fq.set t (ji x.fk m):=rfl;refine⟨(t:Int)::l,by rw[g1];simp,by simp;omega,g2,g3,by rw[g4,a0,RP],fun u mu hu=>?_⟩;by_cases hut:u=t
   ·subst hut
    rw[hm] at hu;injection hu with hu
    subst hu;have:=g5 u (ji x.fk m) (by rw[a0,TN (Rd.1 hm).1]);rw[this];congr 1;show (jA x.fk (kW l u) (ji x.fk m) 0).1=_;have ho:kW ((u:Int)::l) u=kW l u+1:=by simp[kW]
    rw[ho];show _=(if m.rc=0 then jA x.fk (kW l u) (ji x.fk m) (0+1) else (m,0)).1;rw[Rs hs];exact Hd _ _ _ _ _
   ·have:=g5 u mu (by rw[a0,UN K9];exact hu)
    rw[this]
    have ho:kW ((t:Int)::l) u=kW l u:=by
     unfold kW;rw[List.filter_cons_of_neg (by simp;omega)]
    rw[ho];rfl
theorem ym:jq x=M↔zZ x.fk=M/\(1<=x.fq.length/\x.fq.length<=3)/\(0<=x.fR/\x.fR<x.fq.length)/\(1<=x.ws/\x.ws<=1000)/\(1<=x.EQ/\x.EQ<=x.ws)/\∀ m∈x.fq,zU m=M:=by
 unfold jq;simp only[Rq,zu,Td];constructor
 ·rintro⟨⟨⟨⟨⟨h1,h2⟩,h3⟩,h4⟩,h5⟩,h6⟩
  exact⟨h1,K9,K9,h4,h5,h6⟩
 ·rintro⟨h1,h2,h3,h4,h5,h6⟩
  exact⟨⟨⟨⟨⟨h1,K9⟩,K9⟩,h4⟩,h5⟩,h6⟩
theorem Nt {t:Nat} {mv:Bool} (h:jq x=M)(hm:x.fq[t]?=D m):jq (tD x t m mv)=M:=by
 obtain⟨h1,h2,h3,h4,h5,h6⟩:=ym.1 h;have a1:=(Rd.1 hm).1;have hn:(x.fq.set t (ji x.fk m)).length=x.fq.length:=RP;have h7:(t+1) % x.fq.length<x.fq.length:=Va _ K9;obtain⟨left,hl⟩:∃ l:Int,(if mv=M then x.ws else x.EQ)-1=l:=⟨_,rfl⟩
 have a0:0<=left/\left<x.ws:=by
  cases mv with
  | true=>rw[Rs rfl] at hl;omega
  | false=>rw[Ro II] at hl;omega
 rw[yZ hl];refine ym.2 ⟨h1,by rw[hn];exact h2,?_,h4,?_,fun y hy=>?_⟩
 ·simp only[hn];split <;> omega
 ·simp only;split <;> omega
 ·rcases TW hy with hy | rfl
  ·exact h6 y hy
  ·exact JR _ (h6 m (Rt hm))
theorem FH:∀(f:Nat)(x:fO)(ts:Q Int),jq x=M->jq (nJ f x ts).1=M
 | 0,x,ts,h=>h
 | f+1,x,ts,h=>by
  unfold nJ;rcases Fz x with⟨h1,h2⟩ | ⟨t,m,mv,hm,hs,ht⟩
  ·rw[Rs K9,h1]
   exact h
  ·rw[ht]
   simp only;rw[Ro K9];exact FH f _ _ (Nt h hm)
theorem WY {g:Prop} (f:g:=by
  have hP4:=HP.out.pW hg4
  obtain⟨p0,p1,p2,p3,p4,p5,p6,pf,pl⟩:=zK hP4.box
  have hz:=hP4.kept (g:=g+1) (.tail _ (.head _))
  obtain⟨z0,z1,z2,z3,z4,z5,z6,zf,zl⟩:=zK hz
  obtain⟨hHx,hlx,hnx⟩:=hP4.whole ht hle hsl
  have hGw:=hG0.trans hP4.fy
  clear hP4
  have hLe:=Has.nil zr 3 w4
  have hSLg:g+1∉([]:Q Nat):=II
  have hSLw:∀ b∈([]:Q Nat),w.heap.size<=b:=II
  have hdd:∀ b∈S0++S3,b∉([]:Q Nat):=II
  go_wp2_with(fail)
  have h9:=lO hz (G B0 x.fk.fo.length d0) (G B1 x.fk.ft.length d1) (G B2 x.fk.ii.length d2) (G B3 x.fq.length d3) (J Z x.fR) (J Z x.EQ) (J Z x.ws)
  generalize (((((((w4.setCell _ _).setCell _ _).setCell _ _).setCell _ _).setCell _ _).setCell _ _).setCell _ _)=Q9 at h9 |-
  obtain⟨r0,r1,r2,r3,r4,r5,r6,_,_⟩:=zK h9.1
  have hGX:=h9.2.fy hGw (fun b hb'=>by simp at hb';omega)
  have hF9:=hHx.fJ h9.2 (fun b hb' hm=>by simp at hm;exact hnx _ (.tail _ (.head _)) (hm ▸ hb'))
  have hF8:=hLe.fJ h9.2 (fun b hb' hm=>by simp at hm;exact hSLg (hm ▸ hb'))
  rw[HQ.out]
  exact Rj (v:=.tuple #[.agg #[G B0 x.fk.fo.length d0,G B1 x.fk.ft.length d1,G B2 x.fk.ii.length d2,G B3 x.fq.length d3,J Z x.fR,J Z x.EQ,J Z x.ws],G C 0 0]) (by simp[Rv,results9,go_sem,r0,r1,r2,r3,r4,r5,r6]) rfl ⟨B0,d0,B1,d1,B2,d2,B3,d3,_,_,_,_,rfl,hF9,hF8,hdd,(fun b hb2=>by have:=hlx b hb2;omega),hSLw,hGX⟩):g:=f
theorem Xo {g:Prop} (f:g:=by
  have e1:=hvy.t0
  have e2:=hvy.t1
  have e3:=hvy.l1
  have e4:=hvy.l2
  have e5:=hvy.s1
  have e6:=hvy.n3
  exact⟨⟨K9,K9⟩,⟨K9,K9⟩,⟨K9,K9⟩⟩):g:=f
theorem zxq {limit:Int} (h0:(iG.sl 103).R w w.heap.size [G A0 x.fk.fo.length c0] x.fk.fo)(h1:(zr.sl 3).R w w.heap.size [G A1 x.fk.ft.length c1] x.fk.ft)
  (h2:(zr.sl 3).R w w.heap.size [G A2 x.fk.ii.length c2] x.fk.ii) (h3:(zG.sl 41).R w w.heap.size [G A3 x.fq.length c3] x.fq) (ht:fE x.fR) (hle:fE x.EQ) (hsl:fE x.ws) (hli:fE limit) (hs:zN x<=1099511600000) :
  RD prog 9 #[.agg #[G A0 x.fk.fo.length c0,G A1 x.fk.ft.length c1,G A2 x.fk.ii.length c2,G A3 x.fq.length c3,J Z x.fR,J Z x.EQ,J Z x.ws],J Z limit] w (OK (rP x limit) w):=by
 have hG0:fu w ((w.alloc (F #[G A0 x.fk.fo.length c0,G A1 x.fk.ft.length c1,G A2 x.fk.ii.length c2,G A3 x.fq.length c3,J Z x.fR,J Z x.EQ,J Z x.ws] 34)).alloc (F #[G C 0 0,G C 0 0,G C 0 0,G C 0 0,J Z 0,J Z 0,J Z 0] 34)):=gG;obtain⟨aA,aG⟩:=PB w #[G A0 x.fk.fo.length c0,G A1 x.fk.ft.length c1,G A2 x.fk.ii.length c2,G A3 x.fq.length c3,J Z x.fR,J Z x.EQ,J Z x.ws] #[G C 0 0,G C 0 0,G C 0 0,G C 0 0,J Z 0,J Z 0,J Z 0] 34 34;have k0:=Ty.up _ h0 hG0;have k1:=Ty.up _ h1 hG0;have k2:=Ty.up _ h2 hG0;have k3:=Ty.up _ h3 hG0;have aE:zN x<=1099511627776:=K9;have b1:=Fx h3;obtain⟨bj,bk⟩:=hli;obtain⟨g,hg⟩:∃ g,w.heap.size=g:=⟨_,rfl⟩
 obtain⟨q,hq⟩:∃ q,jq x=q:=⟨_,rfl⟩
 obtain⟨ql,ao⟩:∃ q,fP limit 0 3000=q:=⟨_,rfl⟩
 have HB:=fh hq;have HL:=fh ao;have b5:=fh b1;have aF:=fh hs;clear b1 hs;go_enter func9,ntmps9;go_upto_region 1 with(fail);rw[hg] at aA aG;generalize ((w.alloc _).alloc _)=W1 at hG0 aA aG k0 k1 k2 k3 |-;have bs:=hG0.size;clear h0 h1 h2 h3;obtain⟨a0,a1,a2,a3,a4,a5,a6,af,al⟩:=zK aA;go_upto_region 2 with(go_at_call 37;(with_reducible refine(zfG (x:=x) k0 k1 k2 k3 ht hle hsl aE).mono ?_);rintro e w2 ⟨B0,d0,B1,d1,B2,d2,B3,d3,rfl,aT,aQ,e2,rfl⟩)
 obtain⟨S0,S3,hP⟩:=km.make (B:=[(g,F #[G A0 x.fk.fo.length c0,G A1 x.fk.ft.length c1,G A2 x.fk.ii.length c2,G A3 x.fq.length c3,J Z x.fR,J Z x.EQ,J Z x.ws] 34 (0,0)),(g+1,F #[G C 0 0,G C 0 0,G C 0 0,G C 0 0,J Z 0,J Z 0,J Z 0] 34 (0,0))]) aT (fu.of W1 aQ e2) (by
  intro p hp;simp only[RO,Sq,Tm] at hp;rcases hp with rfl | rfl
  ·exact aA
  ·exact aG)
 rw[kH] at hP;obtain⟨g4,hg4⟩:∃ g4,W1.heap.size+aQ.size=g4:=⟨_,rfl⟩
 rw[hg4] at hP |-;generalize (fy W1 aQ e2).alloc _=wc at hP |-;clear aT hg4 a0 a1 a2 a3 a4 a5 a6 af al;obtain⟨a0,a1,a2,a3,a4,a5,a6,af,al⟩:=zK (hP.kept (g:=g) (.head _));have k0:=Ty.up _ k0 hP.fy;have k1:=Ty.up _ k1 hP.fy;have k2:=Ty.up _ k2 hP.fy;have k3:=Ty.up _ k3 hP.fy;have HP:=fh hP;clear hP;cases q with
 | false=>
  have HQ:=fh (show rP x limit=(x,[]) from by unfold rP;rw[Ro (by rw[hq];simp)]);clear hq ao;go_upto_region 3 with(go_at_call 13;(with_reducible refine(zhh (x:=x) k0 k1 k2 k3 aE).mono ?_);rw[HB.out];rintro e w4 ⟨rfl,hg4⟩);exact WY
 | true=>
 cases ql with
 | false=>
  have HQ:=fh (show rP x limit=(x,[]) from by unfold rP;rw[Ro (by rw[ao];simp)]);clear hq ao;go_upto_region 3 with(first | (go_at_call 13;(with_reducible refine(zhh (x:=x) k0 k1 k2 k3 aE).mono ?_);rw[HB.out];rintro e w4 ⟨rfl,hg4⟩) | (go_at_call 38;(with_reducible refine(lW _ _ _ _).mono ?_);rw[HL.out];rintro e w5 ⟨rfl,rfl⟩));exact WY
 | true=>
  have bi:=zu.1 ao;obtain⟨K,rfl⟩:=RE bi.1;have aW:rP x (K:Int)=nJ K x []:=by unfold rP;rw[Rs ⟨hq,ao⟩,Ry]
  have hv:=kL.mk' (Ra:=1099511600000) hq aF.out b5.out;have HV:=fh hv;have b6:=fh aW;clear hq ao hv aW;go_upto_region 4 with(first | (go_at_call 13;(with_reducible refine(zhh (x:=x) k0 k1 k2 k3 aE).mono ?_);rw[HB.out];rintro e w4 ⟨rfl,hg4⟩) | (go_at_call 38;(with_reducible refine(lW _ _ _ _).mono ?_);rw[HL.out];rintro e w5 ⟨rfl,rfl⟩));have hP4:=HP.out.pW hg4;have aV:=hP4.pW (W':=w4.alloc (F #[] 3)) ((fu.refl _).alloc _);have hLe:=Has.Wy zr (Re w4 (F #[] 3));have bh:=(blt hP4.box)
  have aY:=hP4.sp.lt;have aZ:=hP4.th.lt;have bc:=(R9.1 (hP4.kept (g:=g+1) (.tail _ (.head _)))).1;have aM:=(R9.1 (hP4.kept (g:=g) (.head _))).1;have ba:=hP4.fy.size;obtain⟨g7,aX⟩:∃ g7,w4.heap.size=g7:=⟨_,rfl⟩
  rw[aX] at hLe bh aY aZ bc aM ba;have b0:g7<(w4.alloc (F #[] 3)).heap.size:=by rw[Rz];omega
  go_wp2;generalize w4.alloc _=wl at aV hLe b0 |-;clear hP4 aX;go_loopw [7] (fun a wr=>∃(y:fO) (ts:Q Int) (A7:X RJ) (c7:Nat) (SL T3:Q Nat),a=G A7 ts.length c7/\ts.length<=K/\Hid (km [(g,F #[G A0 x.fk.fo.length c0,G A1 x.fk.ft.length c1,G A2 x.fk.ii.length c2,G A3 x.fq.length c3,J Z x.fR,J Z x.EQ,J Z x.ws] 34 (0,0)),(g+1,F #[G C 0 0,G C 0 0,G C 0 0,G C 0 0,J Z 0,J Z 0,J Z 0] 34 (0,0))] W1 wr g4 y B0 d0 B1 d1 B2 d2 B3 d3 S0 T3)/\Hid (kL (1099511600000+ts.length) y)/\Hid (Has (zr.sl 3) wr [G A7 ts.length c7] ts SL)/\Hid (∀ b∈SL,W1.heap.size<=b)/\Hid (∀ b∈SL,b<wr.heap.size/\b≠g4/\b∉S0/\b∉T3)/\Hid (∀ p∈[(g,F #[G A0 x.fk.fo.length c0,G A1 x.fk.ft.length c1,G A2 x.fk.ii.length c2,G A3 x.fq.length c3,J Z x.fR,J Z x.EQ,J Z x.ws] 34 (0,0)),(g+1,F #[G C 0 0,G C 0 0,G C 0 0,G C 0 0,J Z 0,J Z 0,J Z 0] 34 (0,0))],p.1∉SL)/\Hid (nJ (K-ts.length) y ts=rP x (K:Int))/\zN y<=zN x+ts.length) (fun a _=>K-Hu a)
  case atStart=>
   refine⟨x,[],D ⟨g7,0,C⟩,0,[g7],S3,rfl,Rl _,fh aV,HV,fh hLe,fh (by intro b hb;simp at hb;omega),fh (by
    intro b hb;simp at hb;subst hb
    exact⟨b0,K9,fun hm=>by have:=aY _ hm;omega,fun hm=>by have:=aZ _ hm;omega⟩),fh (by
    intro p hp;simp only[RO,Sq,Tm] at hp;rcases hp with rfl | rfl
    ·simp;omega
    ·simp;omega),fh (by rw[RR,Nat.sub_zero];exact b6.out.symm),Ru _⟩
  case round=>
   obtain⟨y,ts,A7,c7,SL,T3,rfl,br,aD,ar,aC,ak,ae,aj,aB,ax⟩:=hrel;by_cases hlt:ts.length<K
   ·have be:(ts.length:Int)<(K:Int):=K9
    have aq:=aD.out.beside ae.out;have aR:=fh aq;clear aq;have aS:=fh (PQ y);go_upto_if 27 with(go_at_call 39;(with_reducible refine(zxw aR.out ar.out K9).mono ?_);rintro e w5 ⟨rfl,ay,S5,a9⟩)
    obtain⟨aJ,ag⟩:=aC.out.beside a9;have a9:=a9.drop (B':=[(g,F #[G A0 x.fk.fo.length c0,G A1 x.fk.ft.length c1,G A2 x.fk.ii.length c2,G A3 x.fq.length c3,J Z x.fR,J Z x.EQ,J Z x.ws] 34 (0,0)),(g+1,F #[G C 0 0,G C 0 0,G C 0 0,G C 0 0,J Z 0,J Z 0,J Z 0] 34 (0,0))]) (fun p hp=>RK _ hp);have aw:=Ia y;obtain⟨x5,b3⟩:∃ z,mT y=z:=⟨_,rfl⟩
    have a8:=aB.out;have b7:K-ts.length=(K-(ts.length+1))+1:=K9;rw[b7] at a8;unfold nJ at a8;have b2:=aS.out;have bq:=ar.out.n3;rw[b3] at ay a9 aw a8 b2 |-;obtain⟨y5,t5⟩:=x5;simp only at ay a9 aw a8 b2 |-;clear b3 aS aR aD ar aC ae aB;by_cases ht5:t5<0
    ·rw[Rs ht5] at a8
     have HQ:=fh a8.symm;have aa:=aj.out;have ab:=ak.out;have hvy:=ay;have a7:=a9;have ap:=aJ;have aL:=ag;have ax:zN y5<=zN x+3000:=K9;clear a8 ay a9 aJ ag
     have ac:fE y5.fR/\fE y5.EQ/\fE y5.ws:=by
      exact Xo
     have hz:=a7.kept (g:=g+1) (.tail _ (.head _));obtain⟨z0,z1,z2,z3,z4,z5,z6,zf,zl⟩:=zK hz;obtain⟨hHx,hlx,hnx⟩:=a7.whole ac.1 ac.2.1 ac.2.2;have hGw:=hG0.trans a7.fy;obtain⟨f0,f1,f2⟩:=ze a7.sp.read;have f3:=a7.th.read;obtain⟨p0,p1,p2,p3,p4,p5,p6,pf,pl⟩:=zK a7.box;have bf:=(blt hz)
     have bo:=hGw.size;have hSLg:g+1∉SL:=fun hm=>(aa (g+1,_) (.tail _ (.head _))) hm;have hSLw:∀ b∈SL,w.heap.size<=b:=fun b hb=>by have:=ab b hb;omega
     have aP:zN y5<=1099511627776:=by have:=aF.out;omega
     clear hvy a7;go_wp2_with(go_at_call 37;(with_reducible refine(zfG (x:=y5) f0 f1 f2 f3 ac.1 ac.2.1 ac.2.2 aP).mono ?_);rintro e w6 ⟨C0,e0,C1,e1,C2,e2,C3,e3,rfl,aH,am⟩;have az:=zj hz am;obtain⟨z0,z1,z2,z3,z4,z5,z6,zf,zl⟩:=zK az);obtain⟨S6,aI,an⟩:=fU.has aH;have ah:=hGw.trans am;have ai:=ap.fy am;have hdd:∀ b∈S6,b∉SL:=fun b hb hm=>by have h1:=an b hb;have h2:=ap.lt b hm;omega
     have h9:=lO az (G C0 y5.fk.fo.length e0) (G C1 y5.fk.ft.length e1) (G C2 y5.fk.ii.length e2) (G C3 y5.fq.length e3) (J Z y5.fR) (J Z y5.EQ) (J Z y5.ws);generalize (((((((w6.setCell _ _).setCell _ _).setCell _ _).setCell _ _).setCell _ _).setCell _ _).setCell _ _)=Q9 at h9 |-;obtain⟨r0,r1,r2,r3,r4,r5,r6,_,_⟩:=zK h9.1;have hGX:=h9.2.fy ah (fun b hb'=>by simp at hb';omega);have hF9:=aI.fJ h9.2 (fun b hb' hm=>by simp at hm;have:=an _ hb';omega);have hF8:=ai.fJ h9.2 (fun b hb' hm=>by simp at hm;exact hSLg (hm ▸ hb'));rw[HQ.out];exact Rj (v:=.tuple #[.agg #[G C0 y5.fk.fo.length e0,G C1 y5.fk.ft.length e1,G C2 y5.fk.ii.length e2,G C3 y5.fq.length e3,J Z y5.fR,J Z y5.EQ,J Z y5.ws],G A7 ts.length c7]) (by simp[Rv,results9,go_sem,r0,r1,r2,r3,r4,r5,r6]) rfl ⟨C0,e0,C1,e1,C2,e2,C3,e3,_,_,_,_,rfl,hF9,hF8,hdd,(fun b hb2=>by have:=an b hb2;omega),hSLw,hGX⟩
    ·rw[Ro ht5] at a8
     have au:fE t5:=⟨K9,K9⟩
     have b4:=fh a8;have ab:=ak.out;have aa:=aj.out;clear a8
     go_wp2_with(first
      | (at_builtin;refine zD (W1:=w5) (L:=ts.length+1) rfl (.tmp 28) (.tmp 30) lN zE (aJ.fy gF) (ec:=[J Z t5]) (y:=t5) (B:=0) ⟨rfl,au.1,au.2⟩ rfl rfl rfl (by intro j u hu;simpa[go_sem] using hu) rfl K9 K9 ?_;intro A9 c9 W9 S9 bn aU b9))
     have b8:=a9.pW (W':=w5.alloc (F #[J Z t5] 3)) gF;have aK:=b8.only bn (fun b hb=>⟨(ag b hb).2.1,(ag b hb).2.2.1,(ag b hb).2.2.2,ab b hb,fun p hp he=>aa p hp (he ▸ hb)⟩);have av:(ts++[t5]).length=ts.length+1:=II;have bg:=aU.lt;have bm:=(blt aK.box)
     have bp:=aK.fy.size;have bl:=(blt a9.box)
     have aN:=a9.sp.lt;have aO:=a9.th.lt
     have ad:∀ b∈S9,b∈SL∨w5.heap.size<=b:=fun b hb=>by
      rcases b9 b hb with h1 | h1
      ·exact .inl h1
      ·rw[Rz] at h1;exact .inr K9
     have bb:=a9.fy.size;have bd:=fun p hp=>(R9.1 (a9.kb p hp).1).1;go_roundw
     case measure=>(simp[Hu];try omega)
     case rel=>
      refine⟨y5,ts++[t5],A9,c9,S9,S5,by rw[av],K9,fh aK,fh (by rw[av];exact ay),fh (by rw[av];exact aU),fh (fun b hb=>?_),fh (fun b hb=>⟨bg b hb,fun he=>?_,fun hm=>?_,fun hm=>?_⟩),fh (fun p hp hm=>?_),fh (by rw[av];exact b4.out),by rw[av];omega⟩
      ·rcases ad b hb with h1 | h1
       ·exact ab b h1
       ·omega
      ·rcases ad b hb with h1 | h1
       ·exact(ag b h1).2.1 he
       ·omega
      ·rcases ad b hb with h1 | h1
       ·exact(ag b h1).2.2.1 hm
       ·have:=aN b hm;omega
      ·rcases ad b hb with h1 | h1
       ·exact(ag b h1).2.2.2 hm
       ·have:=aO b hm;omega
      ·rcases ad p.1 hm with h1 | h1
       ·exact aa p hp h1
       ·have:=bd p hp;omega
   ·have be:¬ ((ts.length:Int)<(K:Int)):=K9
    have a8:=aB.out;rw[show K-ts.length=0 from K9] at a8;have HQ:=fh (show rP x (K:Int)=(y,ts) from a8.symm);have aa:=aj.out;have ab:=ak.out;have hvy:=ar.out;have a7:=aD.out;have ap:=aC.out;have aL:=ae.out;have ax:zN y<=zN x+3000:=K9;clear a8 aD ar aC ae aB
    have ac:fE y.fR/\fE y.EQ/\fE y.ws:=by
     exact Xo
    have hz:=a7.kept (g:=g+1) (.tail _ (.head _));obtain⟨z0,z1,z2,z3,z4,z5,z6,zf,zl⟩:=zK hz;obtain⟨hHx,hlx,hnx⟩:=a7.whole ac.1 ac.2.1 ac.2.2;have hGw:=hG0.trans a7.fy;obtain⟨f0,f1,f2⟩:=ze a7.sp.read;have f3:=a7.th.read;obtain⟨p0,p1,p2,p3,p4,p5,p6,pf,pl⟩:=zK a7.box;have bf:=(blt hz)
    have bo:=hGw.size;have hSLg:g+1∉SL:=fun hm=>(aa (g+1,_) (.tail _ (.head _))) hm;have hSLw:∀ b∈SL,w.heap.size<=b:=fun b hb=>by have:=ab b hb;omega
    have aP:zN y<=1099511627776:=by have:=aF.out;omega
    clear hvy a7;go_wp2_with(go_at_call 37;(with_reducible refine(zfG (x:=y) f0 f1 f2 f3 ac.1 ac.2.1 ac.2.2 aP).mono ?_);rintro e w6 ⟨C0,e0,C1,e1,C2,e2,C3,e3,rfl,aH,am⟩;have az:=zj hz am;obtain⟨z0,z1,z2,z3,z4,z5,z6,zf,zl⟩:=zK az);obtain⟨S6,aI,an⟩:=fU.has aH;have ah:=hGw.trans am;have ai:=ap.fy am;have hdd:∀ b∈S6,b∉SL:=fun b hb hm=>by have h1:=an b hb;have h2:=ap.lt b hm;omega
    have h9:=lO az (G C0 y.fk.fo.length e0) (G C1 y.fk.ft.length e1) (G C2 y.fk.ii.length e2) (G C3 y.fq.length e3) (J Z y.fR) (J Z y.EQ) (J Z y.ws);generalize (((((((w6.setCell _ _).setCell _ _).setCell _ _).setCell _ _).setCell _ _).setCell _ _).setCell _ _)=Q9 at h9 |-;obtain⟨r0,r1,r2,r3,r4,r5,r6,_,_⟩:=zK h9.1;have hGX:=h9.2.fy ah (fun b hb'=>by simp at hb';omega);have hF9:=aI.fJ h9.2 (fun b hb' hm=>by simp at hm;have:=an _ hb';omega);have hF8:=ai.fJ h9.2 (fun b hb' hm=>by simp at hm;exact hSLg (hm ▸ hb'));rw[HQ.out];exact Rj (v:=.tuple #[.agg #[G C0 y.fk.fo.length e0,G C1 y.fk.ft.length e1,G C2 y.fk.ii.length e2,G C3 y.fq.length e3,J Z y.fR,J Z y.EQ,J Z y.ws],G A7 ts.length c7]) (by simp[Rv,results9,go_sem,r0,r1,r2,r3,r4,r5,r6]) rfl ⟨C0,e0,C1,e1,C2,e2,C3,e3,_,_,_,_,rfl,hF9,hF8,hdd,(fun b hb2=>by have:=an b hb2;omega),hSLw,hGX⟩
theorem JV (hq:zZ s=M):s.fo.length=2/\s.ft.length=2/\(∀ x∈s.fo,x.Code.size<=1000000)/\(∀ b∈s.ft,fP b 1 1000000=M):=by
 have h1:=hq;simp only[zZ,Rq,RC,Td] at h1;refine⟨by omega,by omega,fun i hi=>?_,fun b hb=>?_⟩
 ·have h2:=h1.1.1.1.2 i hi
  simp only[jw,Rq,RC] at h2;exact h2.1
 ·exact h1.1.1.2 b hb
def DF (q:fv × Nat)(w:U)(e:Ending)(w':U):Prop:=∃ A3 c3 A4 c4 S,e=.returned (.tuple #[.agg #[J Z q.1.Pc,J Z q.1.Sp,J Z q.1.Fp,G A3 q.1.pm.length c3,G A4 q.1.If.length c4,J Z q.1.rc,J Z q.1.Value],J Z (q.2:Int)])/\zG.O w' [J Z q.1.Pc,J Z q.1.Sp,J Z q.1.Fp,G A3 q.1.pm.length c3,G A4 q.1.If.length c4,J Z q.1.rc,J Z q.1.Value] q.1 S/\(∀ b∈S,w.heap.size<=b)/\fu w w'
theorem F4 {B:Nat} {x:fv} (h:zG.R w B [J Z x.Pc,J Z x.Sp,J Z x.Fp,G A3 x.pm.length c3,G A4 x.If.length c4,J Z x.rc,J Z x.Value] x):(zr.sl 3).R w B [G A3 x.pm.length c3] x.pm/\(zr.sl 3).R w B [G A4 x.If.length c4] x.If:=by
 obtain⟨_,_,_,_,he,_,_,_,h3,h4,_,_⟩:=CI h;simp only[TL,SY,U1,Ud] at he;obtain⟨⟨rfl,rfl⟩,⟨rfl,rfl⟩⟩:=he;exact⟨h3,h4⟩
theorem uX {g:Prop} (f:g:=by
  rw[show DF (jA s L m 0) w=DF (q,k) w from by rw[hrs]]
  exact⟨A,c,B,d,S,rfl,(HH.out.fJ o9 (fun b hb hm=>by simp only[Rc] at hm;exact(HS.out b hb).2.1 hm)).1,fun b hb=>(HS.out b hb).2.2,o9.fy hGr (fun b hb=>by simp only[Rc] at hb;omega)⟩):g:=f
theorem zvp {Ra L:Nat} (h0:(iG.sl 103).R w w.heap.size [G A0 s.fo.length c0] s.fo)(h1:(zr.sl 3).R w w.heap.size [G A1 s.ft.length c1] s.ft)
  (h2:(zr.sl 3).R w w.heap.size [G A2 s.ii.length c2] s.ii) (h3:(zr.sl 3).R w w.heap.size [G A3 m.pm.length c3] m.pm) (h4:(zr.sl 3).R w w.heap.size [G A4 m.If.length c4] m.If)
  (hsp:zZ s=M) (hs:jE s<=1099511627776) (hk:kX Ra m) (hmo:zU m=M) (hN:Ra<=1099511500000) (hl:L<=20000) :
  RD prog 11 #[.agg #[G A0 s.fo.length c0,G A1 s.ft.length c1,G A2 s.ii.length c2],.agg #[J Z m.Pc,J Z m.Sp,J Z m.Fp,G A3 m.pm.length c3,G A4 m.If.length c4,J Z m.rc,J Z m.Value],J Z (L:Int)] w (DF (jA s L m 0) w):=by
 obtain⟨l0,l1,ab,ak⟩:=JV hsp;have aq:s.fo.length=s.ft.length:=K9;have au:∀ x∈s.fo,x.Code.size<=1099511627776:=fun x hx=>RG (ab x hx) qo;have ay:=fh aq;have aC:=fh au;have av:=fh ak;have aB:=fh hsp;have az:=fh hmo;have ax:=fh (show fP (L:Int) 0 20000=M from zu.2 ⟨K9,K9⟩);have e3:(((w.alloc (F #[G A0 s.fo.length c0,G A1 s.ft.length c1,G A2 s.ii.length c2] 28)).alloc (F #[J Z m.Pc,J Z m.Sp,J Z m.Fp,G A3 m.pm.length c3,G A4 m.If.length c4,J Z m.rc,J Z m.Value] 41)).alloc (F #[J Z 0,J Z 0,J Z 0,G C 0 0,G C 0 0,J Z 0,J Z 0] 41)).heap[w.heap.size]?=D (F #[G A0 s.fo.length c0,G A1 s.ft.length c1,G A2 s.ii.length c2] 28 (0,0)):=zj (Re w _) gF
 have e4:(((w.alloc (F #[G A0 s.fo.length c0,G A1 s.ft.length c1,G A2 s.ii.length c2] 28)).alloc (F #[J Z m.Pc,J Z m.Sp,J Z m.Fp,G A3 m.pm.length c3,G A4 m.If.length c4,J Z m.rc,J Z m.Value] 41)).alloc (F #[J Z 0,J Z 0,J Z 0,G C 0 0,G C 0 0,J Z 0,J Z 0] 41)).heap[w.heap.size+1]?=D (F #[J Z m.Pc,J Z m.Sp,J Z m.Fp,G A3 m.pm.length c3,G A4 m.If.length c4,J Z m.rc,J Z m.Value] 41 (0,0)):=by
  have h:=Re (w.alloc (F #[G A0 s.fo.length c0,G A1 s.ft.length c1,G A2 s.ii.length c2] 28)) (F #[J Z m.Pc,J Z m.Sp,J Z m.Fp,G A3 m.pm.length c3,G A4 m.If.length c4,J Z m.rc,J Z m.Value] 41);rw[Rz] at h;exact zj h gF
 have e6:(((w.alloc (F #[G A0 s.fo.length c0,G A1 s.ft.length c1,G A2 s.ii.length c2] 28)).alloc (F #[J Z m.Pc,J Z m.Sp,J Z m.Fp,G A3 m.pm.length c3,G A4 m.If.length c4,J Z m.rc,J Z m.Value] 41)).alloc (F #[J Z 0,J Z 0,J Z 0,G C 0 0,G C 0 0,J Z 0,J Z 0] 41)).heap[w.heap.size+1+1]?=D (F #[J Z 0,J Z 0,J Z 0,G C 0 0,G C 0 0,J Z 0,J Z 0] 41 (0,0)):=by
  have h:=Re ((w.alloc (F #[G A0 s.fo.length c0,G A1 s.ft.length c1,G A2 s.ii.length c2] 28)).alloc (F #[J Z m.Pc,J Z m.Sp,J Z m.Fp,G A3 m.pm.length c3,G A4 m.If.length c4,J Z m.rc,J Z m.Value] 41)) (F #[J Z 0,J Z 0,J Z 0,G C 0 0,G C 0 0,J Z 0,J Z 0] 41);rw[Rz,Rz] at h;exact h
 have a7:fu w (((w.alloc (F #[G A0 s.fo.length c0,G A1 s.ft.length c1,G A2 s.ii.length c2] 28)).alloc (F #[J Z m.Pc,J Z m.Sp,J Z m.Fp,G A3 m.pm.length c3,G A4 m.If.length c4,J Z m.rc,J Z m.Value] 41)).alloc (F #[J Z 0,J Z 0,J Z 0,G C 0 0,G C 0 0,J Z 0,J Z 0] 41)):=gG;clear hsp hmo au ak ab aq l0 l1;have a1:=fh e3;have a2:=fh e4;have a0:=fh e6;clear e3 e4 e6;go_enter func11,ntmps11;go_upto_region 1 with(fail);obtain⟨g3,am⟩:∃ q,w.heap.size=q:=⟨_,rfl⟩
 obtain⟨g4,an⟩:∃ q,g3+1=q:=⟨_,rfl⟩
 obtain⟨g6,ao⟩:∃ q,g4+1=q:=⟨_,rfl⟩
 rw[am] at a1 a2 a0 |-;rw[an] at a2 a0 |-;rw[ao] at a0 |-;generalize (((w.alloc _).alloc _).alloc _)=Y at a1 a2 a0 a7 |-;have aH:g4≠g3:=K9;have aK:w.heap.size<=g3:=K9;have aL:w.heap.size<=g6:=K9;clear am an ao;obtain⟨x0,x1,x2,x3,x4,x5,x6,xf,xl⟩:=zK a2.out;have al:=zdn (x:=m) hk.pc hk.sp hk.fp (Ty.up _ h3 a7) (Ty.up _ h4 a7) hk.st hk.va (by unfold jV;have:=hk.len;have:=hk.out;omega);have aw:=fh al;clear al;go_upto_region 2 with(go_at_call 40;(with_reducible refine aw.out.mono ?_);rintro e W1 ⟨A,c,B,d,rfl,hF,a4⟩);obtain⟨S,hH,aj⟩:=hF.has;have e8:=Re W1 (F #[J Z m.Pc,J Z m.Sp,J Z m.Fp,G A m.pm.length c,G B m.If.length d,J Z m.rc,J Z m.Value] 41);have a6:fu W1 (W1.alloc (F #[J Z m.Pc,J Z m.Sp,J Z m.Fp,G A m.pm.length c,G B m.If.length d,J Z m.rc,J Z m.Value] 41)):=(fu.refl _).alloc _
 have a9:∀ b∈S,w.heap.size<=b/\b≠W1.heap.size/\b≠g6:=fun b hb=>by
  have h1:=aj b hb;have h2:=hH.lt b hb;have h3:=a7.size;have h4:=(blt a0.out)
  omega
 have aI:w.heap.size<=W1.heap.size:=(a7.trans a4).size
 have ar:W1.heap.size≠g6:=by
  have h1:=a4.size;have h4:=(blt a0.out)
  omega
 have aa:W1.heap.size≠g3:=by
  have h1:=a4.size;have h4:=(blt a1.out)
  omega
 have a5:=fh ((a7.trans a4).trans a6);have a1:=fh (zj (zj a1.out a4) a6);have a2:=fh (zj (zj a2.out a4) a6);have a0:=fh (zj (zj a0.out a4) a6);have hH:=hH.fy a6;obtain⟨g8,ap⟩:∃ q,W1.heap.size=q:=⟨_,rfl⟩
 rw[ap] at e8 a9 aI ar aa |-;clear ap aj hF;generalize (W1.alloc _)=Q7 at e8 a6 a5 a1 a2 a0 hH |-;clear a6 a4 x0 x1 x2 x3 x4 x5 x6 xf xl;obtain⟨s0,s1,s2,sf,sl⟩:=iS a1.out;obtain⟨x0,x1,x2,x3,x4,x5,x6,xf,xl⟩:=zK a2.out;have aA:=fh (zbG (s:=s) (Ty.up _ h0 a5.out) (Ty.up _ h1 a5.out) (Ty.up _ h2 a5.out) hs)
 go_upto_if 24 with(first
  | (go_at_call 41;(with_reducible refine aA.out.mono ?_);rw[aB.out];rintro e W2 ⟨rfl,a3⟩;have x0:=za a3 x0;have x1:=za a3 x1;have x2:=za a3 x2;have x3:=za a3 x3;have x4:=za a3 x4;have x5:=za a3 x5;have x6:=za a3 x6)
  | (go_at_call 42;(with_reducible refine(zg9 (m:=m) (by have:=hk.len;omega)).mono ?_);rw[az.out];rintro e W3 ⟨rfl,ah⟩)
  | (go_at_call 43;(with_reducible refine(gW _ _ _ _).mono ?_);rw[ax.out];rintro e W4 ⟨rfl,rfl⟩))
 have a8:=a3.trans ah;have a5:=fh (a5.out.trans a8);have a1:=fh (zj a1.out a8);have a0:=fh (zj a0.out a8);have e8:=zj e8 a8;have hH:=hH.fy a8;clear s0 s1 s2 sf sl x0 x1 x2 x3 x4 x5 x6 xf xl a2 a8 a3 ah;go_wp2_with(fail);go_loopw [9] (fun z wr=>∃(k:Nat) (q:fv) (A:X RJ) (c:Nat) (B:X RJ) (d:Nat) (S:Q Nat),z=J Z (k:Int)/\k<=L/\Hid (jA s (L-k) q k=jA s L m 0)/\Hid (kX (Ra+k) q)/\Hid (fx [g8] W3 wr)/\Hid (wr.heap[g8]?=D (F #[J Z q.Pc,J Z q.Sp,J Z q.Fp,G A q.pm.length c,G B q.If.length d,J Z q.rc,J Z q.Value] 41 (0,0)))/\Hid (Has zG wr [J Z q.Pc,J Z q.Sp,J Z q.Fp,G A q.pm.length c,G B q.If.length d,J Z q.rc,J Z q.Value] q S)/\Hid (∀ b∈S,b≠g8/\b≠g6/\w.heap.size<=b)) (fun z _=>L-(RS z).toNat)
 case atStart=>exact⟨0,m,A,c,B,d,S,rfl,Rl _,fh rfl,fh hk,fh (fx.refl _ _),fh e8,fh hH,fh (fun b hb=>⟨(a9 b hb).2.1,(a9 b hb).2.2,(a9 b hb).1⟩)⟩
 clear e8 hH a9;obtain⟨k,q,A,c,B,d,S,rfl,aJ,HR,HK,HO,HB,HH,HS⟩:=hrel;have hGr:fu w wr:=HO.out.fy a5.out (fun b hb=>by simp only[Rc] at hb;omega);have e6:=(HO.out.block g6 (blt a0.out) (by simpa using ar.symm)).trans a0.out;by_cases hkl:k<L
 ·have ae:(k:Int)<(L:Int):=K9
  by_cases hq0:q.rc=0
  ·have ag:(q.rc == 0)=M:=by rw[hq0];rfl
   have ac:=fh hq0;have e3:=(HO.out.block g3 (blt a1.out) (by simpa using aa.symm)).trans a1.out;obtain⟨s0,s1,s2,sf,sl⟩:=iS e3;obtain⟨y0,y1,y2,y3,y4,y5,y6,yf,yl⟩:=zK HB.out;have af:=F4 HH.out.read;have ad:=fh (zxs (s:=s) (m:=q) (Ra:=Ra+k) (w:=wr) (Ty.up _ h0 hGr) (Ty.up _ h1 hGr) (Ty.up _ h2 hGr) af.1 af.2 ay.out aC.out av.out HK.out K9 hq0);have aM:Rg Z ((k:Int)+1)=(k:Int)+1:=iw;clear hq0 af;go_wp2_with(go_at_call 44;(with_reducible refine ad.out.mono ?_);rintro e W5 ⟨⟨A5,c5,B5,d5,rfl,aD,ai⟩,aF⟩;have eb:=zj HB.out ai;obtain⟨t0,t1,t2,t3,t4,t5,t6,tf,tl⟩:=zK eb);go_roundw
   case measure=>exact gM
   case rel=>
    obtain⟨S5,aE,aG⟩:=aD.has;obtain⟨e9,o9⟩:=lO eb (J Z (ji s q).Pc) (J Z (ji s q).Sp) (J Z (ji s q).Fp) (G A5 (ji s q).pm.length c5) (G B5 (ji s q).If.length d5) (J Z (ji s q).rc) (J Z (ji s q).Value)
    have hn:∀ b∈S5,b≠g8/\b≠g6/\w.heap.size<=b:=fun b hb=>by
     have h1:=aG b hb;have h3:=hGr.size;have h4:=(blt HB.out)
     have h2:=(blt e6)
     omega
    refine⟨k+1,ji s q,A5,c5,B5,d5,S5,Ar,K9,fh ?_,fh (by rw[<-U5];exact aF),fh ((HO.out.trans (ai.only _)).trans o9),fh e9,fh (aE.fJ o9 (fun b hb hm=>by simp only[Rc] at hm;exact(hn b hb).1 hm)),fh hn⟩;rw[<-HR.out]
    conv=>rhs;rw[show L-k=(L-(k+1))+1 from K9,jA,Rs ac.out]
  ·have ag:(q.rc == 0)=I:=Rm.2 hq0
   have ac:=fh hq0;clear hq0;obtain⟨y0,y1,y2,y3,y4,y5,y6,yf,yl⟩:=zK HB.out;obtain⟨z0,z1,z2,z3,z4,z5,z6,zf,zl⟩:=zK e6;go_wp2_with(fail);obtain⟨e9,o9⟩:=lO e6 (J Z q.Pc) (J Z q.Sp) (J Z q.Fp) (G A q.pm.length c) (G B q.If.length d) (J Z q.rc) (J Z q.Value);obtain⟨r0,r1,r2,r3,r4,r5,r6,_,_⟩:=zK e9;refine Rj (v:=.tuple #[.agg #[J Z q.Pc,J Z q.Sp,J Z q.Fp,G A q.pm.length c,G B q.If.length d,J Z q.rc,J Z q.Value],J Z (k:Int)]) (by simp[Rv,results11,go_sem,r0,r1,r2,r3,r4,r5,r6]) rfl ?_;have hrs:(q,k)=jA s L m 0:=by rw[<-HR.out];rw[show L-k=(L-(k+1))+1 from K9,jA,Ro ac.out]
   exact uX
 ·have ae:¬ ((k:Int)<(L:Int)):=K9
  obtain⟨y0,y1,y2,y3,y4,y5,y6,yf,yl⟩:=zK HB.out;obtain⟨z0,z1,z2,z3,z4,z5,z6,zf,zl⟩:=zK e6;go_wp2_with(fail);obtain⟨e9,o9⟩:=lO e6 (J Z q.Pc) (J Z q.Sp) (J Z q.Fp) (G A q.pm.length c) (G B q.If.length d) (J Z q.rc) (J Z q.Value);obtain⟨r0,r1,r2,r3,r4,r5,r6,_,_⟩:=zK e9;refine Rj (v:=.tuple #[.agg #[J Z q.Pc,J Z q.Sp,J Z q.Fp,G A q.pm.length c,G B q.If.length d,J Z q.rc,J Z q.Value],J Z (k:Int)]) (by simp[Rv,results11,go_sem,r0,r1,r2,r3,r4,r5,r6]) rfl ?_;have hrs:(q,k)=jA s L m 0:=by rw[<-HR.out];rw[show L-k=0 from K9];rfl
  exact uX
end Go.Proofs.YthgbglbaemelhaaGreat
