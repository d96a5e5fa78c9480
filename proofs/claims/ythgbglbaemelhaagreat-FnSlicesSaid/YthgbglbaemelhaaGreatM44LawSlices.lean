/-
  PART.
-/
import Derived.Test.YthgbglbaemelhaaGreatM43LawSlices
set_option linter.unusedVariables false
set_option linter.unusedSimpArgs false
set_option maxRecDepth 100000
set_option maxHeartbeats 8000000
namespace Go.Proofs.YthgbglbaemelhaaGreat
open Value renaming slice->G,int->J
open IntKind renaming i64->C
open Option renaming none->D,some->Z
open Obj renaming cells->F
open Bool renaming false->I,true->M
open Go renaming World->U,results->Rd,Calls->Rh,Addr->Ri,yielded->Su
open _root_.Int renaming toNat_natCast->Ra
open List renaming length_nil->Ru
open _root_.Nat renaming add_zero->RK
open Region renaming wanted->Rx,ready->RL,noSelect->Tn,free->Ui
open Tryz
open Go.RowKit
variable {L:Q Nat}{a st v:Int}{c t:Nat}{m m':fy}{mv:Bool}{w:U}{x:fK}
def jm:Nat->fK->Q Int->fK × Q Int
 | 0,x,ts=>(x,ts)
 | f+1,x,ts=>if (jz x).2<0 then ((jz x).1,ts) else jm f (jz x).1 (ts++[(jz x).2])
def rC (x:fK)(limit:Int):fK × Q Int:=if jd x=M/\fT limit 0 3000=M then jm limit.toNat x [] else (x,[])
theorem GY:∀(f:Nat)(x:fK)(ts:Q Int),zI (jm f x ts).1<=zI x+f/\(jm f x ts).2.length<=ts.length+f
 | 0,x,ts=>⟨Q8 _,Q8 _⟩
 | f+1,x,ts=>by
  have h:=CX x;unfold jm;split
  ·exact⟨by show zI (jz x).1<=_;omega,by show ts.length<=_;omega⟩
  ·have h2:=GY f (jz x).1 (ts++[(jz x).2])
   have h3:(ts++[(jz x).2]).length=ts.length+1:=by simp
   omega
theorem G7 (x:fK):∀(f k:Nat),-1<=(lX x f k).2/\(lX x f k).2<=x.fk.length
 | 0,k=>⟨by show (-1:Int)<=-1;omega,by show (-1:Int)<=_;omega⟩
 | f+1,k=>by
  cases hm:x.fk[(x.fO.toNat+k) % x.fk.length]? with
  | none=>
   have h:lX x (f+1) k=(x,-1):=by rw[lX,hm]
   rw[h];exact⟨by show (-1:Int)<=-1;omega,by show (-1:Int)<=_;omega⟩
  | some m=>
   by_cases hs:m.State=0
   ·rw[xH hm hs]
    have h1:=(QM.1 hm).1;exact⟨by simp only;omega,by simp only;omega⟩
   ·rw[yP hm hs]
    exact G7 x f (k+1)
theorem P7 (x:fK) : -1<=(jz x).2/\(jz x).2<=x.fk.length:=G7 x _ _
section
variable {B:Q (Nat × Obj)} {Y W W':U} {gp:Nat} {x:fK} {A0 A1 A2 A3:X Ri} {c0 c1 c2 c3:Nat} {S0 S3:Q Nat}
theorem j7.drop {B':Q (Nat × Obj)} (h:j7 B Y W gp x A0 c0 A1 c1 A2 c2 A3 c3 S0 S3)(hs:∀ p∈B',p∈B):j7 B' Y W gp x A0 c0 A1 c1 A2 c2 A3 c3 S0 S3:=
 ⟨h.box,h.sp,h.th,h.jS,h.g0,h.g3,h.fx,h.lg,h.l0,h.l3,fun p hp=>h.kb p (hs p hp)⟩
theorem j7.only (h:j7 B Y W gp x A0 c0 A1 c1 A2 c2 A3 c3 S0 S3)(ho:fw L W W')(hL:∀ b∈L,b≠gp/\b∉S0/\b∉S3/\Y.heap.size<=b/\∀ p∈B,p.1≠b):j7 B Y W' gp x A0 c0 A1 c1 A2 c2 A3 c3 S0 S3:=
 ⟨(ho.block gp (blt h.box) (fun hm=>(hL gp hm).1 rfl)).trans h.box,h.sp.fJ ho (fun b hb hm=>(hL b hm).2.1 hb),h.th.fJ ho (fun b hb hm=>(hL b hm).2.2.1 hb),h.jS,h.g0,h.g3,ho.fx h.fx (fun b hb=>(hL b hb).2.2.2.1),h.lg,h.l0,h.l3,fun p hp=>by
  obtain⟨h1,h2⟩:=h.kb p hp
  exact⟨(ho.block p.1 (blt h1) (fun hm=>(hL p.1 hm).2.2.2.2 p hp rfl)).trans h1,h2⟩⟩
def IY (W:U)(L:Q Nat):Q (Nat × Obj):=L.map fun b=>(b,(W.heap[b]?).getD (F #[] 0 (0,0)))
theorem j7.beside (h:j7 B Y W gp x A0 c0 A1 c1 A2 c2 A3 c3 S0 S3)(hL:∀ b∈L,b<W.heap.size/\b≠gp/\b∉S0/\b∉S3):j7 (IY W L++B) Y W gp x A0 c0 A1 c1 A2 c2 A3 c3 S0 S3:=
 ⟨h.box,h.sp,h.th,h.jS,h.g0,h.g3,h.fx,h.lg,h.l0,h.l3,fun p hp=>by
  rcases Q7.1 hp with h1 | h1
  ·obtain⟨b,hb,rfl⟩:=TN.1 h1
   obtain⟨q0,q1,q2,q3⟩:=hL b hb;refine⟨?_,q1,q2,q3⟩;show W.heap[b]?=Z ((W.heap[b]?).getD _);rw[Ua q0];rfl
  ·exact h.kb p h1⟩
theorem Has.beside {α:Type} {T:Ty α} {cs:Q Value} {y:α} {x':fK} {A0' A1' A2' A3':X Ri} {c0' c1' c2' c3':Nat} {S0' S3':Q Nat} (hH:Has T W cs y L)(hP:j7 (IY W L++B) Y W' gp x' A0' c0' A1' c1' A2' c2' A3' c3' S0' S3') :
  Has T W' cs y L/\∀ b∈L,b<W'.heap.size/\b≠gp/\b∉S0'/\b∉S3':=by
 have hk:∀ b∈L,W'.heap[b]?=W.heap[b]?/\b≠gp/\b∉S0'/\b∉S3':=fun b hb=>by
  obtain⟨h1,h2,h3,h4⟩:=hP.kb (b,(W.heap[b]?).getD (F #[] 0 (0,0))) (Rm _ (TN.2 ⟨b,hb,rfl⟩));refine⟨?_,h2,h3,h4⟩;have hl:=hH.lt b hb;rw[h1];show Z ((W.heap[b]?).getD _)=W.heap[b]?;rw[Ua hl];rfl
 refine⟨⟨T.gD hH.1 (fun b hb=>(hk b hb).1),hH.2⟩,fun b hb=>⟨?_,(hk b hb).2⟩⟩;have h1:=(hk b hb).1;have hl:=hH.lt b hb;rw[Ua hl] at h1;exact(blt h1)
end
def G0:Value->Nat
 | G _ n _=>n
 | _=>0
def NA (p:fK × Q Int)(w:U)(e:Ending)(w':U):Prop:=∃ A0 c0 A1 c1 A2 c2 A3 c3 A4 c4 S0 S1,e=.returned (.tuple #[.agg #[G A0 p.1.fo.fq.length c0,G A1 p.1.fo.fu.length c1,G A2 p.1.fo.Entries.length c2,G A3 p.1.fk.length c3,J C p.1.fO,J C p.1.Left,J C p.1.Slice],G A4 p.2.length c4])/\
 Has mS w' [G A0 p.1.fo.fq.length c0,G A1 p.1.fo.fu.length c1,G A2 p.1.fo.Entries.length c2,G A3 p.1.fk.length c3,J C p.1.fO,J C p.1.Left,J C p.1.Slice] p.1 S0/\Has (zr.sl 3) w' [G A4 p.2.length c4] p.2 S1/\(∀ b∈S0,b∉S1)/\(∀ b∈S0,w.heap.size<=b)/\(∀ b∈S1,w.heap.size<=b)/\ft w w'
theorem NH (h:iD m v=Z m'):0<=m'.Sp/\m'.Sp<=1200/\m'.State=m.State/\m'.Stack.length=m.Stack.length:=by
 unfold iD at h;split at h
 ·rename_i hb
  have hb:=zu.1 hb;injection h with h
  subst h;exact⟨by simp only;omega,by simp only;omega,rfl,by simp⟩
 ·cases h
theorem Pz {p:fy × Int} (h:iq m=Z p):0<=p.1.Sp/\p.1.Sp<=1200/\p.1.State=m.State/\p.1.Stack.length=m.Stack.length:=by
 unfold iq mO at h;split at h
 ·rename_i hb
  have hb:=zu.1 hb;cases hs:m.Stack[m.Sp.toNat]? with
  | none=>rw[hs] at h;cases h
  | some v=>rw[hs] at h;injection h with h;subst h;exact⟨by simp only;omega,by simp only;omega,rfl,rfl⟩
 ·cases h
def oD (st:Int)(m:fy):Prop:=m.Stack.length=1200/\0<=m.Sp/\m.Sp<=1200/\m.State=st
theorem sH (hl:m.Stack.length=1200/\m.State=st)(h:iD m v=Z m'):oD st m':=by
 have:=NH h;unfold oD;omega
theorem qw {p:fy × Int} (hl:m.Stack.length=1200/\m.State=st)(h:iq m=Z p):oD st p.1:=by
 have:=Pz h;unfold oD;omega
theorem Iq (hl:oD st m)(h:nu m a v=Z m'):oD st m':=by
 unfold nu at h;split at h
 ·injection h with h
  subst h;obtain⟨h1,h2,h3,h4⟩:=hl;exact⟨by simpa using h1,h2,h3,h4⟩
 ·cases h
theorem An {st:Int}:∀(n:Nat){m m':fy},oD st m->jQ n m=Z m'->oD st m'
 | 0,m,m',hm,h=>by injection h with h;subst h;exact hm
 | n+1,m,m',hm,h=>by
  obtain⟨p,hp,h2⟩:=Re.1 h;exact An n (qw ⟨hm.1,hm.2.2.2⟩ hp) h2
theorem Cx {st:Int}:∀(n:Nat){m m':fy},oD st m->ri n m=Z m'->oD st m'
 | 0,m,m',hm,h=>by injection h with h;subst h;exact hm
 | n+1,m,m',hm,h=>by
  obtain⟨p,hp,h2⟩:=Re.1 h;exact Cx n (sH ⟨hm.1,hm.2.2.2⟩ hp) h2
theorem oD.two (h:oD st m):m.Stack.length=1200/\m.State=st:=⟨h.1,h.2.2.2⟩
theorem Ld {es:Q Int} {c:Int} (hm:oD st m)(h:zO es m c a=Z m'):oD st m':=by
 unfold zO at h;by_cases q0:c=0
 ·rw[Q5 q0] at h
  exact sH hm.two h
 rw[QZ q0] at h;by_cases q1:c=1
 ·rw[Q5 q1] at h
  obtain⟨v,_,h2⟩:=Re.1 h;exact sH hm.two h2
 rw[QZ q1] at h;by_cases q3:c=3
 ·rw[Q5 q3] at h
  obtain⟨v,_,h2⟩:=Re.1 h;exact sH hm.two h2
 rw[QZ q3] at h;by_cases q2:c=2
 ·rw[Q5 q2] at h
  obtain⟨p,h1,h2⟩:=Re.1 h;exact Iq (qw hm.two h1) h2
 rw[QZ q2] at h;by_cases q4:c=4
 ·rw[Q5 q4] at h
  obtain⟨p,h1,h2⟩:=Re.1 h;exact Iq (qw hm.two h1) h2
 rw[QZ q4] at h;by_cases q10:c=10
 ·rw[Q5 q10] at h
  injection h with h
  subst h;exact hm
 rw[QZ q10] at h;by_cases q11:c=11
 ·rw[Q5 q11] at h
  obtain⟨p,h1,h2⟩:=R8.1 h;have h3:=qw hm.two h1;subst h2;split <;> exact h3
 rw[QZ q11] at h;by_cases q12:c=12
 ·rw[Q5 q12] at h
  obtain⟨p,h1,h2⟩:=Re.1 h;obtain⟨e,_,h4⟩:=R8.1 h2;subst h4;exact sH (m':=p) hm.two h1
 rw[QZ q12] at h;by_cases q13:c=13
 ·rw[Q5 q13] at h
  obtain⟨p,h1,h2⟩:=Re.1 h;exact Cx _ (m:={ p with Fp:=p.Sp }) (sH (m':=p) hm.two h1) h2
 rw[QZ q13] at h;by_cases q15:c=15
 ·rw[Q5 q15] at h
  exact Cx _ hm h
 rw[QZ q15] at h;by_cases q14:c=14
 ·rw[Q5 q14] at h
  obtain⟨p,h1,h⟩:=Re.1 h;obtain⟨q,h2,h⟩:=Re.1 h;obtain⟨r,h3,h⟩:=Re.1 h;obtain⟨d,h4,h5⟩:=Re.1 h;have k1:=qw hm.two h1;have k2:=qw (m:={ p.1 with Sp:=p.1.Fp }) k1.two h2;have k3:=qw (m:={ q.1 with Fp:=q.2 }) k2.two h3;have k4:=An _ (m:={ r.1 with Pc:=r.2 }) k3 h4;exact sH k4.two h5
 rw[QZ q14] at h;by_cases q16:c=16
 ·rw[Q5 q16] at h
  obtain⟨p,h1,h⟩:=Re.1 h;obtain⟨q,h2,h⟩:=Re.1 h;obtain⟨r,h3,h⟩:=Re.1 h;obtain⟨d,h4,h5⟩:=Re.1 h;have k1:=qw hm.two h1;have k2:=An _ k1 h2;have k3:=qw k2.two h3;have k4:=An _ (m:={ r.1 with Pc:=r.2 }) k3 h4;exact sH k4.two h5
 rw[QZ q16] at h;by_cases q17:c=17
 ·rw[Q5 q17] at h
  obtain⟨p,h1,h2⟩:=R8.1 h;have h3:=qw hm.two h1;subst h2;exact h3
 rw[QZ q17] at h;obtain⟨p,h1,h⟩:=Re.1 h;obtain⟨q,h2,h3⟩:=Re.1 h;exact sH (qw (qw hm.two h1).two h2).two h3
theorem xE:zM m=M↔m.Stack.length=1200/\(0<=m.Sp/\m.Sp<=1200)/\0<=m.State/\m.State<=2:=by
 unfold zM;rw[Q4,Q4,Rg,zu,zu];exact UU
theorem Jv (s:gv){m:fy}(h:zM m=M):zM (kW s m)=M:=by
 obtain⟨h1,h2,h3,h4⟩:=xE.1 h;have a0:zM { m with State:=2 }=M:=xE.2 ⟨h1,h2,by simp,by simp⟩;unfold kW;simp only;split
 ·exact a0
 ·rename_i i _
  split
  ·cases hp:(zO s.Entries { m with Pc:=m.Pc+((jh i.Code (loc s m.Pc).2).n:Int) } (jh i.Code (loc s m.Pc).2).code (jh i.Code (loc s m.Pc).2).arg).bind ny with
   | none=>exact a0
   | some m'=>
    obtain⟨m1,g1,g2⟩:=Re.1 hp;have g3:=Ld (st:=m.State) (show oD m.State { m with Pc:=m.Pc+((jh i.Code (loc s m.Pc).2).n:Int) } from⟨h1,h2.1,h2.2,rfl⟩) g1;obtain⟨k1,k2,k3,k4⟩:=g3;unfold ny at g2;split at g2
    ·obtain⟨v,_,g4⟩:=R8.1 g2
     subst g4;exact xE.2 ⟨k1,⟨k2,k3⟩,by simp,by simp⟩
    ·injection g2 with g2
     subst g2;exact xE.2 ⟨k1,⟨k2,k3⟩,by show 0<=m1.State;omega,by show m1.State<=2;omega⟩
  ·exact a0
def vS (s:gv):Nat->fy->Nat->fy × Nat
 | 0,m,n=>(m,n)
 | f+1,m,n=>if m.State=0 then vS s f (kW s m) (n+1) else (m,n)
theorem GZ (s:gv):∀(f:Nat)(m:fy)(n k:Nat),(vS s f m n).1=(vS s f m k).1
 | 0,_,_,_=>rfl
 | f+1,m,n,k=>by
  unfold vS;split
  ·exact GZ s f _ _ _
  ·rfl
theorem DT (x:fK):∀(f k:Nat),((lX x f k).1=x/\(lX x f k).2 = -1)∨∃(t:Nat)(m:fy)(mv:Bool),x.fk[t]?=Z m/\m.State=0/\lX x f k=(jK x t m mv,(t:Int))
 | 0,k=>.inl ⟨rfl,rfl⟩
 | f+1,k=>by
  cases hm:x.fk[(x.fO.toNat+k) % x.fk.length]? with
  | none=>
   have h:lX x (f+1) k=(x,-1):=by rw[lX,hm]
   rw[h];exact .inl ⟨rfl,rfl⟩
  | some m=>
   by_cases hs:m.State=0
   ·exact .inr ⟨_,m,_,hm,hs,xH hm hs⟩
   ·rw[yP hm hs]
    exact DT x f (k+1)
theorem wD (x:fK):((jz x).1=x/\(jz x).2 = -1)∨∃(t:Nat)(m:fy)(mv:Bool),x.fk[t]?=Z m/\m.State=0/\jz x=(jK x t m mv,(t:Int)):=DT x _ _
def sY (l:Q Int)(t:Int):Nat:=(l.filter fun k=>decide (k=t)).length
theorem xL:∀(f:Nat)(x:fK)(ts:Q Int),∃ l,(jm f x ts).2=ts++l/\l.length<=f/\(jm f x ts).1.fo=x.fo/\(jm f x ts).1.Slice=x.Slice/\(jm f x ts).1.fk.length=x.fk.length/\
  ∀(t:Nat) (m:fy),x.fk[t]?=Z m->(jm f x ts).1.fk[t]?=Z (vS x.fo (sY l t) m 0).1
 | 0,x,ts=>⟨[],by simp[jm],Q8 _,rfl,rfl,rfl,fun t m h=>h⟩
 | f+1,x,ts=>by
  unfold jm;rcases wD x with⟨h1,h2⟩ | ⟨t,m,mv,hm,hs,ht⟩
  ·rw[Q5 (by omega),h1]
   exact⟨[],by simp,QX _,rfl,rfl,rfl,fun t m h=>h⟩
  ·rw[ht]
   simp only;rw[QZ (by omega)];obtain⟨l,g1,g0,g2,g3,g4,g5⟩:=xL f (jK x t m mv) (ts++[(t:Int)]);have a0:(jK x t m mv).fk=x.fk.set t (kW x.fo m):=rfl;refine⟨(t:Int)::l,by rw[g1];simp,by simp;omega,g2,g3,by rw[g4,a0,Rn],fun u mu hu=>?_⟩;by_cases hut:u=t
   ·subst hut
    rw[hm] at hu;injection hu with hu
    subst hu;have:=g5 u (kW x.fo m) (by rw[a0,Tp (QM.1 hm).1]);rw[this];congr 1;show (vS x.fo (sY l u) (kW x.fo m) 0).1=_;have ho:sY ((u:Int)::l) u=sY l u+1:=by simp[sY]
    rw[ho];show _=(if m.State=0 then vS x.fo (sY l u) (kW x.fo m) (0+1) else (m,0)).1;rw[Q5 hs];exact GZ _ _ _ _ _
   ·have:=g5 u mu (by rw[a0,TX (by omega)];exact hu)
    rw[this]
    have ho:sY ((t:Int)::l) u=sY l u:=by
     unfold sY;rw[List.filter_cons_of_neg (by simp;omega)]
    rw[ho];rfl
theorem te:jd x=M↔zU x.fo=M/\(1<=x.fk.length/\x.fk.length<=3)/\(0<=x.fO/\x.fO<x.fk.length)/\(1<=x.Slice/\x.Slice<=1000)/\(1<=x.Left/\x.Left<=x.Slice)/\∀ m∈x.fk,zM m=M:=by
 unfold jd;simp only[Q4,zu,SG];constructor
 ·rintro⟨⟨⟨⟨⟨h1,h2⟩,h3⟩,h4⟩,h5⟩,h6⟩
  exact⟨h1,by omega,by omega,h4,h5,h6⟩
 ·rintro⟨h1,h2,h3,h4,h5,h6⟩
  exact⟨⟨⟨⟨⟨h1,by omega⟩,by omega⟩,h4⟩,h5⟩,h6⟩
theorem CB (h:jd x=M)(hm:x.fk[t]?=Z m):jd (jK x t m mv)=M:=by
 obtain⟨h1,h2,h3,h4,h5,h6⟩:=te.1 h;have a1:=(QM.1 hm).1;have hn:(x.fk.set t (kW x.fo m)).length=x.fk.length:=Rn;have h7:(t+1) % x.fk.length<x.fk.length:=UA _ (by omega);obtain⟨left,hl⟩:∃ l:Int,(if mv=M then x.Slice else x.Left)-1=l:=⟨_,rfl⟩
 have a0:0<=left/\left<x.Slice:=by
  cases mv with
  | true=>rw[Q5 rfl] at hl;omega
  | false=>rw[QZ (by simp)] at hl;omega
 rw[wH hl];refine te.2 ⟨h1,by rw[hn];exact h2,?_,h4,?_,fun y hy=>?_⟩
 ·simp only[hn];split <;> omega
 ·simp only;split <;> omega
 ·rcases Tz hy with hy | rfl
  ·exact h6 y hy
  ·exact Jv _ (h6 m (Q9 hm))
theorem FI:∀(f:Nat)(x:fK)(ts:Q Int),jd x=M->∀(t:Nat)(m:fy),(jm f x ts).1.fk[t]?=Z m->m.State=0->∃ m0,x.fk[t]?=Z m0/\m0.State=0
 | 0,x,ts,_,t,m,h,hs=>⟨m,h,hs⟩
 | f+1,x,ts,hp,t,m,h,hs=>by
  unfold jm at h;rcases wD x with⟨h1,h2⟩ | ⟨u,mu,mv,hu,a1,ht⟩
  ·rw[Q5 (by omega),h1] at h
   exact⟨m,h,hs⟩
  ·rw[ht] at h
   simp only at h;rw[QZ (by omega)] at h;obtain⟨m1,g1,g2⟩:=FI f (jK x u mu mv) _ (CB hp hu) t m h hs;have a0:(jK x u mu mv).fk=x.fk.set u (kW x.fo mu):=rfl;rw[a0] at g1;by_cases hut:u=t
   ·subst hut
    exact⟨mu,hu,a1⟩
   ·rw[TX hut] at g1
    exact⟨m1,g1,g2⟩
theorem BE (h:x.fk[x.fO.toNat % x.fk.length]?=Z m)(hs:m.State=0):jz x=(jK x (x.fO.toNat % x.fk.length) m I,((x.fO.toNat % x.fk.length:Nat):Int)):=by
 unfold jz;have hl:=(QM.1 h).1;obtain⟨n,hn⟩:∃ n,x.fk.length=n+1:=⟨x.fk.length-1,by omega⟩
 rw[show lX x x.fk.length 0=lX x (n+1) 0 from by rw[hn]];exact xH (by rw[RK];exact h) hs
theorem BD (x:fK)(t:Nat)(m:fy)(mv:Bool):((jK x t m mv).fO=(t:Int)/\(jK x t m mv).Left=(if mv=M then x.Slice else x.Left)-1)∨(jK x t m mv).fO=(((t+1) % x.fk.length:Nat):Int):=by
 obtain⟨left,hl⟩:∃ l:Int,(if mv=M then x.Slice else x.Left)-1=l:=⟨_,rfl⟩
 rw[wH hl,hl];by_cases h:left=0
 ·right;simp only[Q5 h]
 ·left;simp only[QZ h];exact⟨trivial,trivial⟩
structure kK (x:fK)(t:Nat)(c:Nat):Prop where
 tl:t<x.fk.length
 c1:1<=c
 fJ:x.fO=(t:Int)->(c:Int)+x.Left<=x.Slice
 gone:x.fO≠(t:Int)->x.fO=(((t+1) % x.fk.length:Nat):Int)
 gL:(c:Int)<=x.Slice
theorem kK.start {u:Nat} (hp:jd x=M)(hn1:1<x.fk.length)(hu:x.fk[u]?=Z m):kK (jK x u m mv) u 1:=by
 obtain⟨h1,h2,h3,h4,h5,h6⟩:=te.1 hp;have a3:=(QM.1 hu).1;have hn:(jK x u m mv).fk.length=x.fk.length:=by show (x.fk.set u _).length=_;rw[Rn]
 have a1:(jK x u m mv).Slice=x.Slice:=rfl;refine⟨by omega,Q8 _,fun hT=>?_,fun hT=>?_,by rw[a1];omega⟩
 ·obtain⟨left,hl⟩:∃ l:Int,(if mv=M then x.Slice else x.Left)-1=l:=⟨_,rfl⟩
  have a2:left<x.Slice:=by rw[<-hl];split <;> omega
  rw[wH hl] at hT |-;by_cases hz:left=0
  ·exfalso
   simp only[Q5 hz] at hT;have a0:(u+1) % x.fk.length=u:=by omega
   by_cases h1n:u+1<x.fk.length
   ·rw[TI h1n] at a0;omega
   ·have:u+1=x.fk.length:=by omega
    rw[this,Nat.mod_self] at a0;omega
  ·simp only[QZ hz]
   omega
 ·rcases BD x u m mv with⟨g1,g2⟩ | g1
  ·exact absurd g1 hT
  ·rw[hn];exact g1
theorem kK.again (hp:jd x=M)(hn1:1<x.fk.length)(h:kK x t c)(hu:x.fk[t]?=Z m)(ht:jz x=(jK x t m mv,(t:Int)))
  (hnext:∃ mn,x.fk[(t+1) % x.fk.length]?=Z mn/\mn.State=0) (hs:m.State=0):kK (jK x t m mv) t (c+1):=by
 obtain⟨h1,h2,h3,h4,h5,h6⟩:=te.1 hp;have a4:=h.tl;have hn:(jK x t m mv).fk.length=x.fk.length:=by show (x.fk.set t _).length=_;rw[Rn]
 have a3:(jK x t m mv).Slice=x.Slice:=rfl
 have a2:(t+1) % x.fk.length≠t:=by
  intro a1;by_cases h1n:t+1<x.fk.length
  ·rw[TI h1n] at a1;omega
  ·have:t+1=x.fk.length:=by omega
   rw[this,Nat.mod_self] at a1;omega
 have hT:x.fO=(t:Int):=by
  refine Decidable.byContradiction fun hne=>?_;have hg:=h.gone hne;obtain⟨mn,k1,k2⟩:=hnext;have a0:x.fO.toNat % x.fk.length=(t+1) % x.fk.length:=by rw[hg,Ra,Nat.mod_mod]
  have h7:=BE (by rw[a0];exact k1) k2;rw[ht] at h7;have h8:=Sg Prod.snd h7;simp only[a0] at h8;omega
 have hk:=h.fJ hT
 -- it is the first from fO on,so the slice is not begun anew
 have a0:x.fO.toNat % x.fk.length=t:=by rw[hT,Ra,TI a4]
 have h7:=BE (by rw[a0];exact hu) hs;rw[ht,a0] at h7;have h8:jK x t m mv=jK x t m I:=Sg Prod.fst h7;rw[h8] at hn a3 |-;refine⟨by omega,by omega,fun hT2=>?_,fun hT2=>?_,by rw[a3];omega⟩
 ·rcases BD x t m I with⟨g1,g2⟩ | g1
  ·rw[g2,a3,QZ (by simp)];omega
  ·rw[hT2] at g1
   omega
 ·rcases BD x t m I with⟨g1,g2⟩ | g1
  ·exact absurd g1 hT2
  ·rw[hn];exact g1
def qZ (S n:Int)(run:Int->Bool):Q Int->Int->Bool
 | a::b::l,w=>if decide ((if a=b then w+1 else 0)≥S) && run ((a+1).tmod n) && decide (n > 1) then I else qZ S n run (b::l) (if a=b then w+1 else 0)
 | _,_=>M
def rZ (ms:Q fy)(t:Int):Bool:=match ms[t.toNat]? with
 | none=>I
 | some m=>decide (m.State=0)
theorem NL {ms:Q fy} (h:rZ ms (t:Int)=M):∃ m,ms[t]?=Z m/\m.State=0:=by
 unfold rZ at h;rw[Ra] at h;cases hm:ms[t]? with
 | none=>rw[hm] at h;cases h
 | some m=>rw[hm] at h;exact⟨m,rfl,by simpa using h⟩
theorem N6 (t n:Nat):((t:Int)+1).tmod (n:Int)=(((t+1) % n:Nat):Int):=by
 rw[show (t:Int)+1=((t+1:Nat):Int) from by omega,Int.ofNat_tmod]
theorem Gx:∀(f:Nat)(x:fK)(ts:Q Int)(t c:Nat)(w:Int),jd x=M->1<x.fk.length->w+1=(c:Int)->
  (rZ (jm f x ts).1.fk (((t+1) % x.fk.length:Nat):Int)=M->kK x t c)->
  ∀ l,(jm f x ts).2=ts++l->qZ x.Slice x.fk.length (rZ (jm f x ts).1.fk) ((t:Int)::l) w=M
 | 0,x,ts,t,c,w,_,_,_,_,l,hl=>by
  have:l = []:=by
   have h:ts=ts++l:=hl;simpa using h.symm
  subst this;rfl
 | f+1,x,ts,t,c,w,hp,hn1,hw,hW,l,hl=>by
  obtain⟨h1,h2,h3,h4,h5,h6⟩:=te.1 hp;rcases wD x with⟨k1,k2⟩ | ⟨u,m,mv,hu,hs,ht⟩
  ·have he:jm (f+1) x ts=(x,ts):=by unfold jm;rw[Q5 (by omega),k1]
   rw[he] at hl;have:l = []:=by simpa using hl.symm
   subst this;rfl
  ·have he:jm (f+1) x ts=jm f (jK x u m mv) (ts++[(u:Int)]):=by
    conv=>lhs;unfold jm
    rw[ht];simp only;rw[QZ (by omega)]
   have hn:(jK x u m mv).fk.length=x.fk.length:=by show (x.fk.set u _).length=_;rw[Rn]
   have a3:(jK x u m mv).Slice=x.Slice:=rfl;have a5:=CB (mv:=mv) hp hu;obtain⟨l2,g1,_,_,_,_,_⟩:=xL f (jK x u m mv) (ts++[(u:Int)]);rw[he,g1,Rw] at hl;have a4:l=(u:Int)::l2:=(List.append_cancel_left hl).symm;subst a4;have a1:=FI (f+1) x ts hp;have a0:=fun c2 w2 hw2 a2=>Gx f (jK x u m mv) (ts++[(u:Int)]) u c2 w2 a5 (by omega) hw2 a2 l2 g1;rw[hn,a3,<-he] at a0;generalize hY:(jm (f+1) x ts).1.fk=Y at a0 hW a1 |-;by_cases hut:u=t
   ·subst hut
    have a2:rZ Y (((u+1) % x.fk.length:Nat):Int)=M->kK (jK x u m mv) u (c+1):=fun hr=>by
     obtain⟨mn,e1,e2⟩:=NL hr;exact(hW hr).again hp hn1 hu ht (a1 _ mn e1 e2) hs
    have h9:=a0 (c+1) (w+1) (by omega) a2;unfold qZ;rw[Q5 rfl];rw[h9,N6];cases hr:rZ Y (((u+1) % x.fk.length:Nat):Int) with
    | false=>simp
    | true=>
     have h8:=(a2 hr).gL;rw[a3] at h8;rw[QZ];simp only[UX,Q4,Rg,not_and];intro h7;omega
   ·have h9:=a0 1 0 (by omega) (fun _=>kK.start hp hn1 hu)
    unfold qZ;rw[QZ (show ¬ (t:Int)=(u:Int) by omega),h9];rw[QZ];simp only[Q4,Rg,not_and];intro h7;omega
theorem Gw (S:Int)(run:Int->Bool):∀(l:Q Int)(w:Int),qZ S 1 run l w=M
 | [],_=>rfl
 | [_],_=>rfl
 | a::b::l,w=>by
  unfold qZ;rw[QZ (by simp)];exact Gw S run (b::l) _
theorem Nv (hp:jd x=M)(f:Nat):qZ x.Slice x.fk.length (rZ (jm f x []).1.fk) (jm f x []).2 0=M:=by
 obtain⟨h1,h2,h3,h4,h5,h6⟩:=te.1 hp;by_cases hn:x.fk.length=1
 ·rw[hn];exact Gw _ _ _ _
 ·cases f with
  | zero=>rfl
  | succ f=>
   rcases wD x with⟨k1,k2⟩ | ⟨u,m,mv,hu,hs,ht⟩
   ·have he:jm (f+1) x []=(x,[]):=by unfold jm;rw[Q5 (by omega),k1]
    rw[he];rfl
   ·have he:jm (f+1) x []=jm f (jK x u m mv) [(u:Int)]:=by
     conv=>lhs;unfold jm
     rw[ht];simp only;rw[QZ (by omega)];rfl
    have a0:(jK x u m mv).fk.length=x.fk.length:=by show (x.fk.set u _).length=_;rw[Rn]
    obtain⟨l2,g1,_,_,_,_,_⟩:=xL f (jK x u m mv) [(u:Int)];have h9:=Gx f (jK x u m mv) [(u:Int)] u 1 0 (CB hp hu) (by omega) (by omega) (fun _=>kK.start hp (by omega) hu) l2 g1;rw[he,g1];rw[a0] at h9;exact h9
theorem Mw (f:Nat):(∃ l,(jm (f+1) x []).2=(jz x).2::l/\0<=(jz x).2)∨((jm (f+1) x []).2 = []/\(jz x).2<0):=by
 unfold jm;split
 ·right;exact⟨rfl,by assumption⟩
 ·left
  obtain⟨l,g,_⟩:=xL f (jz x).1 ([]++[(jz x).2]);exact⟨l,by rw[g];simp,by omega⟩
theorem tN {g:Prop} (f:g:=by
  have hP4:=HP.out.nI hg4
  obtain⟨p0,p1,p2,p3,p4,p5,p6,pf,pl⟩:=zS hP4.box
  have hz:=hP4.kept (g:=g+1) (.tail _ (.head _))
  obtain⟨z0,z1,z2,z3,z4,z5,z6,zf,zl⟩:=zS hz
  obtain⟨hHx,hlx,hnx⟩:=hP4.whole ht hle hsl
  have hGw:=hG0.trans hP4.fx
  clear hP4
  have hLe:=Has.nil zr 3 w4
  have hSLg:g+1∉([]:Q Nat):=by simp
  have hSLw:∀ b∈([]:Q Nat),w.heap.size<=b:=by simp
  have hdd:∀ b∈S0++S3,b∉([]:Q Nat):=by simp
  go_wp2_with(fail)
  have h9:=mK hz (G B0 x.fo.fq.length d0) (G B1 x.fo.fu.length d1) (G B2 x.fo.Entries.length d2) (G B3 x.fk.length d3) (J C x.fO) (J C x.Left) (J C x.Slice)
  generalize (((((((w4.setCell _ _).setCell _ _).setCell _ _).setCell _ _).setCell _ _).setCell _ _).setCell _ _)=QJ at h9 |-
  obtain⟨r0,r1,r2,r3,r4,r5,r6,_,_⟩:=zS h9.1
  have hGX:=h9.2.fx hGw (fun b hb'=>by simp at hb';omega)
  have hF9:=hHx.fJ h9.2 (fun b hb' hm=>by simp at hm;exact hnx _ (.tail _ (.head _)) (hm ▸ hb'))
  have hF8:=hLe.fJ h9.2 (fun b hb' hm=>by simp at hm;exact hSLg (hm ▸ hb'))
  rw[HQ.out]
  exact QU (v:=.tuple #[.agg #[G B0 x.fo.fq.length d0,G B1 x.fo.fu.length d1,G B2 x.fo.Entries.length d2,G B3 x.fk.length d3,J C x.fO,J C x.Left,J C x.Slice],G D 0 0]) (by simp[Rd,results9,go_sem,r0,r1,r2,r3,r4,r5,r6]) rfl ⟨B0,d0,B1,d1,B2,d2,B3,d3,_,_,_,_,rfl,hF9,hF8,hdd,(fun b hb2=>by have:=hlx b hb2;omega),hSLw,hGX⟩):g:=f
theorem uL {g:Prop} (f:g:=by
  have e1:=hvy.t0
  have e2:=hvy.t1
  have e3:=hvy.l1
  have e4:=hvy.l2
  have e5:=hvy.s1
  have e6:=hvy.n3
  exact⟨⟨by omega,by omega⟩,⟨by omega,by omega⟩,⟨by omega,by omega⟩⟩):g:=f
theorem zwL {limit:Int} {A0 A1 A2 A3:X Ri} {c0 c1 c2 c3:Nat} (h0:(iL.sl 103).R w w.heap.size [G A0 x.fo.fq.length c0] x.fo.fq)(h1:(zr.sl 3).R w w.heap.size [G A1 x.fo.fu.length c1] x.fo.fu)
  (h2:(zr.sl 3).R w w.heap.size [G A2 x.fo.Entries.length c2] x.fo.Entries) (h3:(jX.sl 41).R w w.heap.size [G A3 x.fk.length c3] x.fk) (ht:fD x.fO) (hle:fD x.Left) (hsl:fD x.Slice) (hli:fD limit) (hs:zI x<=1099511600000) :
  Rh prog 9 #[.agg #[G A0 x.fo.fq.length c0,G A1 x.fo.fu.length c1,G A2 x.fo.Entries.length c2,G A3 x.fk.length c3,J C x.fO,J C x.Left,J C x.Slice],J C limit] w (NA (rC x limit) w):=by
 have hG0:ft w ((w.alloc (F #[G A0 x.fo.fq.length c0,G A1 x.fo.fu.length c1,G A2 x.fo.Entries.length c2,G A3 x.fk.length c3,J C x.fO,J C x.Left,J C x.Slice] 34)).alloc (F #[G D 0 0,G D 0 0,G D 0 0,G D 0 0,J C 0,J C 0,J C 0] 34)):=gG;obtain⟨aA,aG⟩:=Iw w #[G A0 x.fo.fq.length c0,G A1 x.fo.fu.length c1,G A2 x.fo.Entries.length c2,G A3 x.fk.length c3,J C x.fO,J C x.Left,J C x.Slice] #[G D 0 0,G D 0 0,G D 0 0,G D 0 0,J C 0,J C 0,J C 0] 34 34;have k0:=Ty.up _ h0 hG0;have k1:=Ty.up _ h1 hG0;have k2:=Ty.up _ h2 hG0;have k3:=Ty.up _ h3 hG0;have aE:zI x<=1099511627776:=by omega
 have b1:=Ef h3;obtain⟨bj,bk⟩:=hli;obtain⟨g,hg⟩:∃ g,w.heap.size=g:=⟨_,rfl⟩
 obtain⟨q,hq⟩:∃ q,jd x=q:=⟨_,rfl⟩
 obtain⟨ql,ao⟩:∃ q,fT limit 0 3000=q:=⟨_,rfl⟩
 have HB:=fh hq;have HL:=fh ao;have b5:=fh b1;have aF:=fh hs;clear b1 hs;go_enter func9,ntmps9;go_upto_region 1 with(fail);rw[hg] at aA aG;generalize ((w.alloc _).alloc _)=W1 at hG0 aA aG k0 k1 k2 k3 |-;have bs:=hG0.size;clear h0 h1 h2 h3;obtain⟨a0,a1,a2,a3,a4,a5,a6,af,al⟩:=zS aA;go_upto_region 2 with(go_at_call 37;(with_reducible refine(zdb (x:=x) k0 k1 k2 k3 ht hle hsl aE).mono ?_);rintro e w2 ⟨B0,d0,B1,d1,B2,d2,B3,d3,rfl,aT,aQ,e2,rfl⟩)
 obtain⟨S0,S3,hP⟩:=j7.make (B:=[(g,F #[G A0 x.fo.fq.length c0,G A1 x.fo.fu.length c1,G A2 x.fo.Entries.length c2,G A3 x.fk.length c3,J C x.fO,J C x.Left,J C x.Slice] 34 (0,0)),(g+1,F #[G D 0 0,G D 0 0,G D 0 0,G D 0 0,J C 0,J C 0,J C 0] 34 (0,0))]) aT (ft.of W1 aQ e2) (by
  intro p hp;simp only[Rp,RO,SH] at hp;rcases hp with rfl | rfl
  ·exact aA
  ·exact aG)
 rw[lr] at hP;obtain⟨g4,hg4⟩:∃ g4,W1.heap.size+aQ.size=g4:=⟨_,rfl⟩
 rw[hg4] at hP |-;generalize (fx W1 aQ e2).alloc _=wc at hP |-;clear aT hg4 a0 a1 a2 a3 a4 a5 a6 af al;obtain⟨a0,a1,a2,a3,a4,a5,a6,af,al⟩:=zS (hP.kept (g:=g) (.head _));have k0:=Ty.up _ k0 hP.fx;have k1:=Ty.up _ k1 hP.fx;have k2:=Ty.up _ k2 hP.fx;have k3:=Ty.up _ k3 hP.fx;have HP:=fh hP;clear hP;cases q with
 | false=>
  have HQ:=fh (show rC x limit=(x,[]) from by unfold rC;rw[QZ (by rw[hq];simp)]);clear hq ao;go_upto_region 3 with(go_at_call 13;(with_reducible refine(zg0 (x:=x) k0 k1 k2 k3 aE).mono ?_);rw[HB.out];rintro e w4 ⟨rfl,hg4⟩);exact tN
 | true=>
 cases ql with
 | false=>
  have HQ:=fh (show rC x limit=(x,[]) from by unfold rC;rw[QZ (by rw[ao];simp)]);clear hq ao;go_upto_region 3 with(first | (go_at_call 13;(with_reducible refine(zg0 (x:=x) k0 k1 k2 k3 aE).mono ?_);rw[HB.out];rintro e w4 ⟨rfl,hg4⟩) | (go_at_call 38;(with_reducible refine(lP _ _ _ _).mono ?_);rw[HL.out];rintro e w5 ⟨rfl,rfl⟩));exact tN
 | true=>
  have bi:=zu.1 ao;obtain⟨K,rfl⟩:=Rl bi.1;have aW:rC x (K:Int)=jm K x []:=by unfold rC;rw[Q5 ⟨hq,ao⟩,Ra]
  have hv:=km.mk' (QK:=1099511600000) hq aF.out b5.out;have HV:=fh hv;have b6:=fh aW;clear hq ao hv aW;go_upto_region 4 with(first | (go_at_call 13;(with_reducible refine(zg0 (x:=x) k0 k1 k2 k3 aE).mono ?_);rw[HB.out];rintro e w4 ⟨rfl,hg4⟩) | (go_at_call 38;(with_reducible refine(lP _ _ _ _).mono ?_);rw[HL.out];rintro e w5 ⟨rfl,rfl⟩));have hP4:=HP.out.nI hg4;have aV:=hP4.nI (W':=w4.alloc (F #[] 3)) ((ft.refl _).alloc _);have hLe:=Has.emp zr (QO w4 (F #[] 3));have bh:=(blt hP4.box)
  have aY:=hP4.sp.lt;have aZ:=hP4.th.lt;have bc:=(R5.1 (hP4.kept (g:=g+1) (.tail _ (.head _)))).1;have aM:=(R5.1 (hP4.kept (g:=g) (.head _))).1;have ba:=hP4.fx.size;obtain⟨g7,aX⟩:∃ g7,w4.heap.size=g7:=⟨_,rfl⟩
  rw[aX] at hLe bh aY aZ bc aM ba;have b0:g7<(w4.alloc (F #[] 3)).heap.size:=by rw[Rf];omega
  go_wp2;generalize w4.alloc _=wl at aV hLe b0 |-;clear hP4 aX;go_loopw [7] (fun a wr=>∃(y:fK) (ts:Q Int) (A7:X Ri) (c7:Nat) (SL T3:Q Nat),a=G A7 ts.length c7/\ts.length<=K/\Hid (j7 [(g,F #[G A0 x.fo.fq.length c0,G A1 x.fo.fu.length c1,G A2 x.fo.Entries.length c2,G A3 x.fk.length c3,J C x.fO,J C x.Left,J C x.Slice] 34 (0,0)),(g+1,F #[G D 0 0,G D 0 0,G D 0 0,G D 0 0,J C 0,J C 0,J C 0] 34 (0,0))] W1 wr g4 y B0 d0 B1 d1 B2 d2 B3 d3 S0 T3)/\Hid (km (1099511600000+ts.length) y)/\Hid (Has (zr.sl 3) wr [G A7 ts.length c7] ts SL)/\Hid (∀ b∈SL,W1.heap.size<=b)/\Hid (∀ b∈SL,b<wr.heap.size/\b≠g4/\b∉S0/\b∉T3)/\Hid (∀ p∈[(g,F #[G A0 x.fo.fq.length c0,G A1 x.fo.fu.length c1,G A2 x.fo.Entries.length c2,G A3 x.fk.length c3,J C x.fO,J C x.Left,J C x.Slice] 34 (0,0)),(g+1,F #[G D 0 0,G D 0 0,G D 0 0,G D 0 0,J C 0,J C 0,J C 0] 34 (0,0))],p.1∉SL)/\Hid (jm (K-ts.length) y ts=rC x (K:Int))/\zI y<=zI x+ts.length) (fun a _=>K-G0 a)
  case atStart=>
   refine⟨x,[],Z ⟨g7,0,D⟩,0,[g7],S3,rfl,QX _,fh aV,HV,fh hLe,fh (by intro b hb;simp at hb;omega),fh (by
    intro b hb;simp at hb;subst hb
    exact⟨b0,by omega,fun hm=>by have:=aY _ hm;omega,fun hm=>by have:=aZ _ hm;omega⟩),fh (by
    intro p hp;simp only[Rp,RO,SH] at hp;rcases hp with rfl | rfl
    ·simp;omega
    ·simp;omega),fh (by rw[Ru,Nat.sub_zero];exact b6.out.symm),Q8 _⟩
  case round=>
   obtain⟨y,ts,A7,c7,SL,T3,rfl,br,aD,ar,aC,ak,ae,aj,aB,ax⟩:=hrel;by_cases hlt:ts.length<K
   ·have be:(ts.length:Int)<(K:Int):=by omega
    have aq:=aD.out.beside ae.out;have aR:=fh aq;clear aq;have aS:=fh (P7 y);go_upto_if 27 with(go_at_call 39;(with_reducible refine(zuZ aR.out ar.out (by omega)).mono ?_);rintro e w5 ⟨rfl,ay,S5,a9⟩)
    obtain⟨aJ,ag⟩:=aC.out.beside a9;have a9:=a9.drop (B':=[(g,F #[G A0 x.fo.fq.length c0,G A1 x.fo.fu.length c1,G A2 x.fo.Entries.length c2,G A3 x.fk.length c3,J C x.fO,J C x.Left,J C x.Slice] 34 (0,0)),(g+1,F #[G D 0 0,G D 0 0,G D 0 0,G D 0 0,J C 0,J C 0,J C 0] 34 (0,0))]) (fun p hp=>Rr _ hp);have aw:=CX y;obtain⟨x5,b3⟩:∃ z,jz y=z:=⟨_,rfl⟩
    have a8:=aB.out;have b7:K-ts.length=(K-(ts.length+1))+1:=by omega
    rw[b7] at a8;unfold jm at a8;have b2:=aS.out;have bq:=ar.out.n3;rw[b3] at ay a9 aw a8 b2 |-;obtain⟨y5,t5⟩:=x5;simp only at ay a9 aw a8 b2 |-;clear b3 aS aR aD ar aC ae aB;by_cases ht5:t5<0
    ·rw[Q5 ht5] at a8
     have HQ:=fh a8.symm;have aa:=aj.out;have ab:=ak.out;have hvy:=ay;have a7:=a9;have ap:=aJ;have aL:=ag;have ax:zI y5<=zI x+3000:=by omega
     clear a8 ay a9 aJ ag
     have ac:fD y5.fO/\fD y5.Left/\fD y5.Slice:=by
      exact uL
     have hz:=a7.kept (g:=g+1) (.tail _ (.head _));obtain⟨z0,z1,z2,z3,z4,z5,z6,zf,zl⟩:=zS hz;obtain⟨hHx,hlx,hnx⟩:=a7.whole ac.1 ac.2.1 ac.2.2;have hGw:=hG0.trans a7.fx;obtain⟨f0,f1,f2⟩:=xF a7.sp.read;have f3:=a7.th.read;obtain⟨p0,p1,p2,p3,p4,p5,p6,pf,pl⟩:=zS a7.box;have bf:=(blt hz)
     have bo:=hGw.size;have hSLg:g+1∉SL:=fun hm=>(aa (g+1,_) (.tail _ (.head _))) hm;have hSLw:∀ b∈SL,w.heap.size<=b:=fun b hb=>by have:=ab b hb;omega
     have aP:zI y5<=1099511627776:=by have:=aF.out;omega
     clear hvy a7;go_wp2_with(go_at_call 37;(with_reducible refine(zdb (x:=y5) f0 f1 f2 f3 ac.1 ac.2.1 ac.2.2 aP).mono ?_);rintro e w6 ⟨C0,e0,C1,e1,C2,e2,C3,e3,rfl,aH,am⟩;have az:=zj hz am;obtain⟨z0,z1,z2,z3,z4,z5,z6,zf,zl⟩:=zS az);obtain⟨S6,aI,an⟩:=fU.has aH;have ah:=hGw.trans am;have ai:=ap.fx am;have hdd:∀ b∈S6,b∉SL:=fun b hb hm=>by have h1:=an b hb;have h2:=ap.lt b hm;omega
     have h9:=mK az (G C0 y5.fo.fq.length e0) (G C1 y5.fo.fu.length e1) (G C2 y5.fo.Entries.length e2) (G C3 y5.fk.length e3) (J C y5.fO) (J C y5.Left) (J C y5.Slice);generalize (((((((w6.setCell _ _).setCell _ _).setCell _ _).setCell _ _).setCell _ _).setCell _ _).setCell _ _)=QJ at h9 |-;obtain⟨r0,r1,r2,r3,r4,r5,r6,_,_⟩:=zS h9.1;have hGX:=h9.2.fx ah (fun b hb'=>by simp at hb';omega);have hF9:=aI.fJ h9.2 (fun b hb' hm=>by simp at hm;have:=an _ hb';omega);have hF8:=ai.fJ h9.2 (fun b hb' hm=>by simp at hm;exact hSLg (hm ▸ hb'));rw[HQ.out];exact QU (v:=.tuple #[.agg #[G C0 y5.fo.fq.length e0,G C1 y5.fo.fu.length e1,G C2 y5.fo.Entries.length e2,G C3 y5.fk.length e3,J C y5.fO,J C y5.Left,J C y5.Slice],G A7 ts.length c7]) (by simp[Rd,results9,go_sem,r0,r1,r2,r3,r4,r5,r6]) rfl ⟨C0,e0,C1,e1,C2,e2,C3,e3,_,_,_,_,rfl,hF9,hF8,hdd,(fun b hb2=>by have:=an b hb2;omega),hSLw,hGX⟩
    ·rw[QZ ht5] at a8
     have au:fD t5:=⟨by omega,by omega⟩
     have b4:=fh a8;have ab:=ak.out;have aa:=aj.out;clear a8
     go_wp2_with(first
      | (at_builtin;refine zA (W1:=w5) (L:=ts.length+1) rfl (.tmp 28) (.tmp 30) mg zD (aJ.fx gF) (ec:=[J C t5]) (y:=t5) (B:=0) ⟨rfl,au.1,au.2⟩ rfl rfl rfl (by intro j u hu;simpa[go_sem] using hu) rfl (by omega) (by omega) ?_;intro A9 c9 W9 S9 bn aU b9))
     have b8:=a9.nI (W':=w5.alloc (F #[J C t5] 3)) gF;have aK:=b8.only bn (fun b hb=>⟨(ag b hb).2.1,(ag b hb).2.2.1,(ag b hb).2.2.2,ab b hb,fun p hp he=>aa p hp (he ▸ hb)⟩);have av:(ts++[t5]).length=ts.length+1:=by simp
     have bg:=aU.lt;have bm:=(blt aK.box)
     have bp:=aK.fx.size;have bl:=(blt a9.box)
     have aN:=a9.sp.lt;have aO:=a9.th.lt
     have ad:∀ b∈S9,b∈SL∨w5.heap.size<=b:=fun b hb=>by
      rcases b9 b hb with h1 | h1
      ·exact .inl h1
      ·rw[Rf] at h1;exact .inr (by omega)
     have bb:=a9.fx.size;have bd:=fun p hp=>(R5.1 (a9.kb p hp).1).1;go_roundw
     case measure=>(simp[G0];try omega)
     case rel=>
      refine⟨y5,ts++[t5],A9,c9,S9,S5,by rw[av],by omega,fh aK,fh (by rw[av];exact ay),fh (by rw[av];exact aU),fh (fun b hb=>?_),fh (fun b hb=>⟨bg b hb,fun he=>?_,fun hm=>?_,fun hm=>?_⟩),fh (fun p hp hm=>?_),fh (by rw[av];exact b4.out),by rw[av];omega⟩
      ·rcases ad b hb with h1 | h1
       ·exact ab b h1
       ·omega
      ·rcases ad b hb with h1 | h1
       ·exact(ag b h1).2.1 he
       ·omega
      ·rcases ad b hb with h1 | h1
       ·exact(ag b h1).2.2.1 hm
       ·have:=aN b hm;omega
      ·rcases ad b hb with h1 | h1
       ·exact(ag b h1).2.2.2 hm
       ·have:=aO b hm;omega
      ·rcases ad p.1 hm with h1 | h1
       ·exact aa p hp h1
       ·have:=bd p hp;omega
   ·have be:¬ ((ts.length:Int)<(K:Int)):=by omega
    have a8:=aB.out;rw[show K-ts.length=0 from by omega] at a8;have HQ:=fh (show rC x (K:Int)=(y,ts) from a8.symm);have aa:=aj.out;have ab:=ak.out;have hvy:=ar.out;have a7:=aD.out;have ap:=aC.out;have aL:=ae.out;have ax:zI y<=zI x+3000:=by omega
    clear a8 aD ar aC ae aB
    have ac:fD y.fO/\fD y.Left/\fD y.Slice:=by
     exact uL
    have hz:=a7.kept (g:=g+1) (.tail _ (.head _));obtain⟨z0,z1,z2,z3,z4,z5,z6,zf,zl⟩:=zS hz;obtain⟨hHx,hlx,hnx⟩:=a7.whole ac.1 ac.2.1 ac.2.2;have hGw:=hG0.trans a7.fx;obtain⟨f0,f1,f2⟩:=xF a7.sp.read;have f3:=a7.th.read;obtain⟨p0,p1,p2,p3,p4,p5,p6,pf,pl⟩:=zS a7.box;have bf:=(blt hz)
    have bo:=hGw.size;have hSLg:g+1∉SL:=fun hm=>(aa (g+1,_) (.tail _ (.head _))) hm;have hSLw:∀ b∈SL,w.heap.size<=b:=fun b hb=>by have:=ab b hb;omega
    have aP:zI y<=1099511627776:=by have:=aF.out;omega
    clear hvy a7;go_wp2_with(go_at_call 37;(with_reducible refine(zdb (x:=y) f0 f1 f2 f3 ac.1 ac.2.1 ac.2.2 aP).mono ?_);rintro e w6 ⟨C0,e0,C1,e1,C2,e2,C3,e3,rfl,aH,am⟩;have az:=zj hz am;obtain⟨z0,z1,z2,z3,z4,z5,z6,zf,zl⟩:=zS az);obtain⟨S6,aI,an⟩:=fU.has aH;have ah:=hGw.trans am;have ai:=ap.fx am;have hdd:∀ b∈S6,b∉SL:=fun b hb hm=>by have h1:=an b hb;have h2:=ap.lt b hm;omega
    have h9:=mK az (G C0 y.fo.fq.length e0) (G C1 y.fo.fu.length e1) (G C2 y.fo.Entries.length e2) (G C3 y.fk.length e3) (J C y.fO) (J C y.Left) (J C y.Slice);generalize (((((((w6.setCell _ _).setCell _ _).setCell _ _).setCell _ _).setCell _ _).setCell _ _).setCell _ _)=QJ at h9 |-;obtain⟨r0,r1,r2,r3,r4,r5,r6,_,_⟩:=zS h9.1;have hGX:=h9.2.fx ah (fun b hb'=>by simp at hb';omega);have hF9:=aI.fJ h9.2 (fun b hb' hm=>by simp at hm;have:=an _ hb';omega);have hF8:=ai.fJ h9.2 (fun b hb' hm=>by simp at hm;exact hSLg (hm ▸ hb'));rw[HQ.out];exact QU (v:=.tuple #[.agg #[G C0 y.fo.fq.length e0,G C1 y.fo.fu.length e1,G C2 y.fo.Entries.length e2,G C3 y.fk.length e3,J C y.fO,J C y.Left,J C y.Slice],G A7 ts.length c7]) (by simp[Rd,results9,go_sem,r0,r1,r2,r3,r4,r5,r6]) rfl ⟨C0,e0,C1,e1,C2,e2,C3,e3,_,_,_,_,rfl,hF9,hF8,hdd,(fun b hb2=>by have:=an b hb2;omega),hSLw,hGX⟩
theorem Gu (x:fK):(jz x).1.fk.length=x.fk.length:=by
 rcases wD x with⟨h,_⟩ | ⟨t,m,mv,_,_,h⟩
 ·rw[h]
 ·rw[h];show (x.fk.set t _).length=_;rw[Rn]
theorem FH:∀(f:Nat)(x:fK)(ts:Q Int),(∀ a∈ts,0<=a/\a<x.fk.length)->∀ a∈(jm f x ts).2,0<=a/\a<x.fk.length
 | 0,_,_,h=>h
 | f+1,x,ts,h=>by
  unfold jm;rcases wD x with⟨h1,h2⟩ | ⟨t,m,mv,hm,hs,ht⟩
  ·rw[Q5 (by omega)];exact h
  ·have hl:=Gu x
   rw[ht] at hl |-;simp only at hl |-;rw[QZ (by omega)];intro a ha;have a0:=(QM.1 hm).1
   have:=FH f (jK x t m mv) (ts++[(t:Int)]) (fun a ha=>by
    rw[hl];rcases Q7.1 ha with ha | ha
    ·exact h a ha
    ·rw[QN.1 ha];omega) a ha
   rw[hl] at this;exact this
theorem Ob {S n:Int} {run:Int->Bool} {l:Q Int} {w:Int} {k:Nat} {b:Int} (h:qZ S n run (l.drop k) w=M)(ha:l[k]?=Z a)(hb:l[k+1]?=Z b) :
  ((if a=b then w+1 else 0)≥S->run ((a+1).tmod n)=M->¬ n > 1)/\qZ S n run (l.drop (k+1)) (if a=b then w+1 else 0)=M:=by
 obtain⟨h1,rfl⟩:=QM.1 ha;obtain⟨h2,rfl⟩:=QM.1 hb;rw[Q6 h1,Q6 h2] at h;rw[Q6 h2];unfold qZ at h;generalize (if l[k]=l[k+1] then w+1 else 0)=v at h |-;split at h
 ·cases h
 ·next hc=>
  exact⟨fun g1 g2 g3=>hc (by rw[QY g1,g2,QY g3];rfl),h⟩
theorem NQ (hp:jd x=M)(hm:∀ q∈x.fk,q=m)(hs:m.State=0):∃ l,(jm 120 x []).2=(jz x).2::l:=by
 obtain⟨_,h2,h3,_⟩:=te.1 hp;have hl:x.fO.toNat % x.fk.length<x.fk.length:=UA _ (by omega);have he:=BE (x:=x) (m:=m) (by rw[QW hl,hm _ (List.getElem_mem hl)]) hs;rcases Mw (x:=x) 119 with⟨l,h,_⟩ | ⟨_,h⟩
 ·exact⟨l,h⟩
 ·rw[he] at h;simp only at h;omega
theorem Lz (s:gv):(oy s).1.State=0:=by unfold oy;split <;> rfl
theorem zw5 {xs:Q Int} {A:X Ri} (hx:(zr.sl 3).R w w.heap.size [G A xs.length c] xs){v:Int}{l:Q Int}(hk:xs=v::l)(hl:xs.length<=1099511627776) :
  Rh prog 25 #[G A xs.length c,J C 0] w fun e w'=>e=.returned (J C v)/\w=w':=by
 have h0:0<xs.length:=by rw[hk];exact Nat.succ_pos _
 obtain⟨g,o,u,hA,hu,hc,_⟩:=lI hx (k:=0) h0;obtain rfl:u=v:=by rw[hk] at hu;injection hu with hu;exact hu.symm
 subst hA;have h1:¬ ((0:Int)≥(xs.length:Int)):=by omega
 have h2:(0:Int)<(xs.length:Int):=by omega
 have h3:¬ ((xs.length:Int)<=0):=by omega
 have h4:¬ xs.length=0:=by omega
 have h5:¬ xs = []:=by rw[hk];exact List.cons_ne_nil _ _
 clear hx hu hk;simp only[RK] at hc;go_enter func25,ntmps25;go_wp2_with(fail);go_ret;exact⟨rfl,rfl⟩
end Go.Proofs.YthgbglbaemelhaaGreat
