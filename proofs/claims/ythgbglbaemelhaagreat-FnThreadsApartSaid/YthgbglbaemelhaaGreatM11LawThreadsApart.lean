/-
  PART.
-/
import Derived.Test.YthgbglbaemelhaaGreatM10LawThreadsApart
set_option linter.unusedVariables false
set_option linter.unusedSimpArgs false
set_option maxRecDepth 100000
set_option maxHeartbeats 8000000
namespace Go.Proofs.YthgbglbaemelhaaGreat
open Option renaming none->C,some->D,getD_some->Te,map_some->TK
open Bool renaming false->I,true->M
open _root_.Int renaming toNat_natCast->Ry
open List renaming length_cons->RA,replicate->RN,length_nil->RR,getElem?_cons_zero->RW,length_singleton->R4,getElem?_cons_succ->Tg,sum_cons->Tu,cons_append->TQ,foldl_cons->TY
open Go renaming World->U,yielded->Th
open Region renaming wanted->RV,ready->Sn,noSelect->TZ,free->Wu
open Go.RowKit
variable {Ra a e f i j k m n v w z:Nat}{acc:Q fQ}{b:fY}{c image y:Int}{fs l:Q Int}{p:Q fw}{r:iu}{s t:N}{x:me}
def sx (b:Bool):Int:=if b=M then 1 else 0
def qH:Q gK->Int->Q Int
 | [],_=>[]
 | r::l,last=>(r.kw-last)::(r.PP-r.kw)::sx r.Frame::r.fF::qH l r.PP
def pA (l:Q gK):N:=if qP 0 l=M then og (qH l 0) else Wy
def m9:Q Int->Int->Q gK
 | a::b::c::d::l,last=>⟨last+a,last+a+b,decide (c=1),d⟩::m9 l (last+a+b)
 | _,_=>[]
def oQ (s:N):Q gK × Bool:=
 if (iR s 0).2.2=M/\(iR s 0).2.1=s.size/\(iR s 0).1.length % 4=0 then
  (if pA (m9 (iR s 0).1 0)=s then (m9 (iR s 0).1 0,M) else ([],I))
 else ([],I)
def qM:Q iu->Int->Int->Q Int
 | [],_,_=>[]
 | r::l,o,n=>(r.us-o)::(r.fG-n)::sx r.kw::qM l r.us r.fG
def pH (l:Q iu):N:=if qS (-1) l=M then og (qM l 0 0) else Wy
def nB:Q Int->Int->Int->Q iu
 | a::b::c::l,o,n=>⟨o+a,n+b,decide (c=1)⟩::nB l (o+a) (n+b)
 | _,_,_=>[]
def oV (s:N):Q iu × Bool:=
 if (iR s 0).2.2=M/\(iR s 0).2.1=s.size/\(iR s 0).1.length % 3=0 then
  (if pH (nB (iR s 0).1 0 0)=s then (nB (iR s 0).1 0 0,M) else ([],I))
 else ([],I)
def xG (x:fQ):N:=og [x.kw,x.PP,x.Do,x.fG]++qx x.pu
def rK:Q fQ->N->N
 | [],s=>s
 | x::l,s=>rK l (s++xG x)
def oZ (l:Q fQ):N:=if wC l=M then rK l (jy l.length) else Wy
def lT (s:N):Nat->Nat->Q fQ->X (Q fQ × Nat)
 | 0,a,acc=>D (acc,a)
 | n+1,a,acc=>match iR s a with
  | ([x,y,z,u],m,M)=>if (jH s (a+m:Nat)).2.2=M then lT s n (a+m+(jH s (a+m:Nat)).2.1) (acc++[⟨x,y,z,u,(jH s (a+m:Nat)).1⟩]) else C
  | _=>C
def nh (s:N):Q fQ × Bool:=
 if (iD s 0).2.2=M then match lT s (iD s 0).1 (iD s 0).2.1 [] with
  | some (l,_)=>if oZ l=s then (l,M) else ([],I)
  | none=>([],I)
 else ([],I)
def uk (s:N):Int:=(s.data.toList.map fun b=>(b.toNat:Int)).sum
def wO (x:fC):N:=qx x.pu++og [x.kw,x.gH]
def sO:Q fC->N->N
 | [],s=>s
 | x::l,s=>sO l (s++wO x)
def sP (x:fC):Bool:=fP x.kw 0 1000000 && fP x.gH 0 1000000
def tA (d:gE):N:=sO d.fm (jy d.Id++jy d.fm.length)++(qx (pA d.fW)++qx (pH d.AC)++qx (oZ d.fI))
def mQ (d:gE):N:=
 if fP d.Id 0 1099511627775=M/\qP 0 d.fW=M/\qS (-1) d.AC=M/\wC d.fI=M/\d.fm.all sP=M then tA d++jy (uk (tA d)) else Wy
def mc (s:N):Nat->Nat->Q fC->X (Q fC × Nat)
 | 0,a,acc=>D (acc,a)
 | n+1,a,acc=>if (jH s a).2.2=M then match iR s (a+(jH s a).2.1:Nat) with
  | ([x,y],m,M)=>mc s n (a+(jH s a).2.1+m) (acc++[⟨(jH s a).1,x,y⟩])
  | _=>C
  else C
def nk (s:N):Nat->Nat->Q N->X (Q N × Nat)
 | 0,a,acc=>D (acc,a)
 | n+1,a,acc=>if (jH s a).2.2=M then nk s n (a+(jH s a).2.1) (acc++[(jH s a).1]) else C
def wG:gE:=⟨0,[],[],[],[]⟩
def Jc (id:Int)(WB:Q fC):Q N->X gE
 | [x,y,z]=>if (oQ x).2=M/\(oV y).2=M/\(nh z).2=M then D ⟨id,WB,(oQ x).1,(oV y).1,(nh z).1⟩ else C
 | _=>C
def yM (s:N):X gE:=
 if (iD s 0).2.2=M/\(iD s (iD s 0).2.1).2.2=M then
  match mc s (iD s (iD s 0).2.1).1 ((iD s 0).2.1+(iD s (iD s 0).2.1).2.1) [] with
  | some (WB,a)=>match nk s 3 a [] with
   | some (ps,_)=>Jc (iD s 0).1 WB ps
   | none=>C
  | none=>C
 else C
def qO (s:N):gE × Bool:=match yM s with
 | some d=>if mQ d=s then (d,M) else (wG,I)
 | none=>(wG,I)
theorem Ll {xs:Q gK} {r:gK} (h:xs[k]?=D r)(last:Int):qH (xs.drop k) last=(r.kw-last)::(r.PP-r.kw)::sx r.Frame::r.fF::qH (xs.drop (k+1)) r.PP:=by
 obtain⟨h1,rfl⟩:=Rd.1 h;rw[Rw h1];rfl
theorem MG {xs:Q iu} (h:xs[k]?=D r)(o n:Int):qM (xs.drop k) o n=(r.us-o)::(r.fG-n)::sx r.kw::qM (xs.drop (k+1)) r.us r.fG:=by
 obtain⟨h1,rfl⟩:=Rd.1 h;rw[Rw h1];rfl
theorem ti {α:Type} {l:Q α} {a:α} (h:l[k]?=D a):l.drop k=a::l.drop (k+1):=by
 obtain⟨h1,rfl⟩:=Rd.1 h;exact Rw h1
theorem K1 {a b d:Int} (h0:l[k]?=D a)(h1:l[k+1]?=D b)(h2:l[k+2]?=D c)(h3:l[k+3]?=D d)(last:Int):m9 (l.drop k) last=⟨last+a,last+a+b,decide (c=1),d⟩::m9 (l.drop (k+4)) (last+a+b):=by
 rw[ti h0,ti h1,ti h2,ti h3];rfl
theorem Lk {a b:Int} (h0:l[k]?=D a)(h1:l[k+1]?=D b)(h2:l[k+2]?=D c)(o n:Int):nB (l.drop k) o n=⟨o+a,n+b,decide (c=1)⟩::nB (l.drop (k+3)) (o+a) (n+b):=by
 rw[ti h0,ti h1,ti h2];rfl
theorem Oy {xs:Q fQ} {x:fQ} (h:xs[k]?=D x)(s:N):rK (xs.drop k) s=rK (xs.drop (k+1)) (s++xG x):=by
 rw[ti h];rfl
theorem Px {xs:Q fC} {x:fC} (h:xs[k]?=D x)(s:N):sO (xs.drop k) s=sO (xs.drop (k+1)) (s++wO x):=by
 rw[ti h];rfl
theorem mA (a b:N):(a++b).size=a.size+b.size:=Sg
theorem yy (l:Q Int):(og l).size<=6+6*l.length:=by
 unfold og;split
 ·rw[IT,Rh,DN]
  have h1:=pE l.length;have h2:=Nq l l.length;rw[SC] at h2;omega
 ·exact Rl _
theorem tm (s:N):(qx s).size<=6+s.size:=by
 unfold qx;rw[mA];have:=pE s.size;omega
theorem Eg:∀(l:Q gK)(a:Int),(qH l a).length=4*l.length
 | [],_=>rfl
 | r::l,a=>by simp only[qH,RA,Eg l];omega
theorem EH:∀(l:Q iu)(a b:Int),(qM l a b).length=3*l.length
 | [],_,_=>rfl
 | r::l,a,b=>by simp only[qM,RA,EH l];omega
theorem DZ (l:Q gK):(pA l).size<=6+24*l.length:=by
 unfold pA;split
 ·have:=yy (qH l 0)
  rw[Eg] at this;omega
 ·exact Rl _
theorem Em (l:Q iu):(pH l).size<=6+18*l.length:=by
 unfold pH;split
 ·have:=yy (qM l 0 0)
  rw[EH] at this;omega
 ·exact Rl _
theorem CY (h:kZ s=M):s.size<=8:=by
 unfold kZ at h;rw[Rq] at h;have:=zu.1 h.2;omega
theorem NX (x:fQ):(xG x).size<=36+x.pu.size:=by
 unfold xG;rw[mA];have h1:=yy [x.kw,x.PP,x.Do,x.fG];have h2:=tm x.pu;simp only[RA,RR] at h1;omega
theorem Dq {xs:Q fQ}:∀(l:Q fQ)(k:Nat),wK xs k l=M->∀ x∈l,kZ x.pu=M
 | [],_,_,x,hx=>absurd hx II
 | y::l,k,h,x,hx=>by
  rw[wK,Rq] at h;rcases RO.1 hx with rfl | hx
  ·have h1:=h.1
   unfold ly jU at h1;simp only[Rq] at h1;exact h1.1.1.2
  ·exact Dq l (k+1) h.2 x hx
theorem FZ:∀(l:Q fQ)(s:N),(∀ x∈l,kZ x.pu=M)->s.size<=(rK l s).size/\(rK l s).size<=s.size+44*l.length
 | [],s,_=>⟨Ru _,by simp[rK]⟩
 | x::l,s,h=>by
  have h1:=FZ l (s++xG x) (fun y hy=>h y (SV _ hy));rw[mA] at h1;have h2:=NX x;have h3:=CY (h x TA);simp only[rK,RA];omega
theorem ET (l:Q fQ):(oZ l).size<=6+44*l.length:=by
 unfold oZ;split
 ·rename_i h
  have h1:=(FZ l (jy l.length) (Dq l 0 h)).2;have h2:=pE l.length;omega
 ·exact Rl _
def lU (l:Q fC):Nat:=(l.map fun x=>x.pu.size+24).sum
theorem Ng (a b:Q fC):lU (a++b)=lU a+lU b:=by simp[lU]
theorem Nh (l:Q fC):24*l.length<=lU l:=by
 induction l with
 | nil=>simp[lU]
 | cons x l ih=>simp only[lU,Sz,Tu,RA] at ih |-;omega
theorem Ni {l:Q fC} {x:fC} (h:x∈l):x.pu.size<=lU l:=by
 induction l with
 | nil=>cases h
 | cons y l ih=>
  simp only[lU,Sz,Tu] at ih |-;rcases RO.1 h with rfl | h
  ·omega
  ·have:=ih h;omega
theorem Nf (x:fC):(wO x).size<=x.pu.size+24:=by
 unfold wO;rw[mA];have h1:=yy [x.kw,x.gH];have h2:=tm x.pu;simp only[RA,RR] at h1;omega
theorem Ag:∀(l:Q fC)(s:N),s.size<=(sO l s).size/\(sO l s).size<=s.size+lU l
 | [],s=>⟨Ru _,TR _ _⟩
 | x::l,s=>by
  have h1:=Ag l (s++wO x);rw[mA] at h1;have h2:=Nf x;simp only[sO,lU,Sz,Tu] at h1 |-;omega
theorem Kv (d:gE):(tA d).size<=60+lU d.fm+24*d.fW.length+18*d.AC.length+44*d.fI.length:=by
 unfold tA;simp only[mA];have h1:=(Ag d.fm (jy d.Id++jy d.fm.length)).2;rw[mA] at h1;have h2:=pE d.Id;have h3:=pE d.fm.length;have h4:=tm (pA d.fW);have h5:=tm (pH d.AC);have h6:=tm (oZ d.fI);have h7:=DZ d.fW;have h8:=Em d.AC;have h9:=ET d.fI;omega
theorem Ib {s:N}{a:Nat}:∀(c z:Nat)(acc:Q Int)(l:Q Int)(n:Nat),a+z<=s.size->pN s a c z acc=D (l,n)->(∀ x∈acc,-1099511627776<=x/\x<=1099511627776)->z<=n/\a+n<=s.size/\l.length+z=acc.length+c+z/\c+z<=n/\∀ x∈l,-1099511627776<=x/\x<=1099511627776
 | 0,z,acc,l,n,hz,h,ha=>by
  simp only[pN,RT,Tp] at h;obtain⟨rfl,rfl⟩:=h;exact⟨Ru _,hz,rfl,K9,ha⟩
 | c+1,z,acc,l,n,hz,h,ha=>by
  obtain⟨m,t,ok,hp⟩:∃ m t ok,iD s ((a:Int)+z)=(m,t,ok):=⟨_,_,_,rfl⟩
  rw[pN,hp] at h;cases ok with
  | false=>simp at h
  | true=>
   simp only[TI] at h;have hb:=qJ hp
   have:=Ib c (z+t) (acc++[signed m]) l n K9 h (fun x hx=>by
    rcases Rr.1 hx with hx | hx
    ·exact ha x hx
    ·rw[Rc.1 hx];exact yw m)
   rw[Rh,R4] at this;refine⟨K9,this.2.1,K9,K9,this.2.2.2.2⟩
theorem tV (h:iR s a=(l,z,M)):1<=z/\a+z<=s.size/\l.length<z/\∀ x∈l,-1099511627776<=x/\x<=1099511627776:=by
 obtain⟨m,t,ok,hp⟩:∃ m t ok,iD s (a:Int)=(m,t,ok):=⟨_,_,_,rfl⟩
 unfold iR at h;rw[hp] at h;cases ok with
 | false=>simp at h
 | true=>
  simp only[TI] at h;have hb:=qJ hp;cases hg:pN s a m t [] with
  | none=>rw[hg] at h;simp[yL] at h
  | some p=>
   obtain⟨l',n⟩:=p;rw[hg] at h;simp only[yL,Tp,Ud] at h;obtain⟨rfl,rfl⟩:=h;have:=Ib m t [] l' n K9 hg II;simp only[RR,RF] at this;exact⟨K9,this.2.1,K9,this.2.2.2.2⟩
theorem r8 {g:Prop} (f:g:=by
  split at h
  ·cases h
  ·injection h with h1 h2
   injection h2 with h2 _
   exact⟨h1.symm,h2.symm⟩):g:=f
theorem Bm {a:Int} (h:iR s a=(l,z,I)):l = []/\z=0:=by
 unfold iR at h;split at h
 ·unfold yL at h
  exact r8
 ·injection h with h1 h2
  injection h2 with h2 _
  exact⟨h1.symm,h2.symm⟩
theorem tW (h:jH s a=(t,z,M)):1<=z/\a+z<=s.size/\t.size<=z:=by
 obtain⟨n,y,ok,hp⟩:∃ n y ok,iD s a=(n,y,ok):=⟨_,_,_,rfl⟩
 unfold jH at h;rw[hp] at h;cases ok with
 | false=>simp at h
 | true=>
  obtain⟨h1,h2,h3,h4,h5⟩:=qJ hp;by_cases hf:n<=s.size-a-y
  ·simp only[TP,Ry,RC,hf,TI,Tp,Ud] at h
   obtain⟨rfl,rfl⟩:=h;refine⟨K9,K9,?_⟩;rw[UG];omega
  ·simp[hf] at h
theorem Iy {a:Int} (h:jH s a=(t,z,I)):t=Wy/\z=0:=by
 unfold jH at h;exact r8
theorem GI (h:iR s a=(l,m,I)):lT s (n+1) a acc=C:=by
 obtain⟨rfl,rfl⟩:=Bm h;rw[lT,h]
theorem GJ (h:iR s a=(l,m,M))(h2:jH s (a+m:Nat)=(t,z,I)):lT s (n+1) a acc=C:=by
 rw[lT,h];split
 ·rename_i hh
  injection hh with h3 h4
  injection h4 with h4 _
  subst h4;rw[h2];rfl
 ·rfl
theorem GK (h:iR s a=(l,m,M))(h2:l.length≠4):lT s (n+1) a acc=C:=by
 rw[lT,h];split
 ·rename_i hh
  injection hh with h3 h4
  subst h3;exact absurd rfl h2
 ·rfl
theorem Hh {x z u:Int} (h:iR s a=([x,y,z,u],m,M))(h2:jH s (a+m:Nat)=(t,k,M)):lT s (n+1) a acc=lT s n (a+m+k) (acc++[⟨x,y,z,u,t⟩]):=by
 rw[lT,h];simp only;rw[h2];rfl
theorem FM {acc:Q fC} (h:jH s a=(t,m,I)):mc s (n+1) a acc=C:=by
 rw[mc,h];rfl
theorem FN {acc:Q fC} (h:jH s a=(t,m,M))(h2:iR s (a+m:Nat)=(l,z,I)):mc s (n+1) a acc=C:=by
 obtain⟨rfl,rfl⟩:=Bm h2;rw[mc,h];simp only[TI];rw[h2]
theorem FO {acc:Q fC} (h:jH s a=(t,m,M))(h2:iR s (a+m:Nat)=(l,z,M))(h3:l.length≠2):mc s (n+1) a acc=C:=by
 rw[mc,h];simp only[TI];rw[h2];split
 ·rename_i hh
  injection hh with h4 h5
  subst h4;exact absurd rfl h3
 ·rfl
theorem GL {acc:Q fC} {x:Int} (h:jH s a=(t,m,M))(h2:iR s (a+m:Nat)=([x,y],z,M)):mc s (n+1) a acc=mc s n (a+m+z) (acc++[⟨t,x,y⟩]):=by
 rw[mc,h];simp only[TI];rw[h2]
theorem IP {acc:Q N} (h:jH s a=(t,z,I)):nk s (n+1) a acc=C:=by rw[nk,h];rfl
theorem IQ {acc:Q N} (h:jH s a=(t,z,M)):nk s (n+1) a acc=nk s n (a+z) (acc++[t]):=by rw[nk,h];rfl
theorem four (h:l.length=4):∃ x y z u,l = [x,y,z,u]:=by
 match l,h with
 | [x,y,z,u],_=>exact⟨_,_,_,_,rfl⟩
theorem two (h:l.length=2):∃ x y,l = [x,y]:=by
 match l,h with
 | [x,y],_=>exact⟨_,_,rfl⟩
theorem Kw (s:N):(oQ s).1.length<=s.size:=by
 unfold oQ
 have a0:∀(n:Nat) (l:Q Int) (a:Int),l.length<=n->(m9 l a).length<=n:=by
  intro n;induction n with
  | zero=>intro l a h;cases l with
   | nil=>simp[m9]
   | cons x l=>simp at h
  | succ n ih=>
   intro l a h
   match l,h with
   | [],_=>simp[m9]
   | [_],_=>simp[m9]
   | [_,_],_=>simp[m9]
   | [_,_,_],_=>simp[m9]
   | x::y::z::u::l,h=>
    simp only[m9,RA] at h |-;have:=ih l (a+x+y) K9;omega
 split
 ·rename_i h
  split
  ·obtain⟨l,z,ok,hp⟩:∃ l z ok,iR s (0:Nat)=(l,z,ok):=⟨_,_,_,rfl⟩
   have h0:=h.1;have e:iR s 0=iR s ((0:Nat):Int):=rfl;rw[e,hp] at h0 |-;simp only at h0;subst h0;have:=tV hp;have h2:=a0 l.length l 0 (Ru _);show (m9 l 0).length<=s.size;omega
  ·exact Rl _
 ·exact Rl _
theorem KT (s:N):(oV s).1.length<=s.size:=by
 unfold oV
 have a0:∀(n:Nat) (l:Q Int) (a b:Int),l.length<=n->(nB l a b).length<=n:=by
  intro n;induction n with
  | zero=>intro l a b h;cases l with
   | nil=>simp[nB]
   | cons x l=>simp at h
  | succ n ih=>
   intro l a b h
   match l,h with
   | [],_=>simp[nB]
   | [_],_=>simp[nB]
   | [_,_],_=>simp[nB]
   | x::y::z::l,h=>
    simp only[nB,RA] at h |-;have:=ih l (a+x) (b+y) K9;omega
 split
 ·rename_i h
  split
  ·obtain⟨l,z,ok,hp⟩:∃ l z ok,iR s (0:Nat)=(l,z,ok):=⟨_,_,_,rfl⟩
   have h0:=h.1;have e:iR s 0=iR s ((0:Nat):Int):=rfl;rw[e,hp] at h0 |-;simp only at h0;subst h0;have:=tV hp;have h2:=a0 l.length l 0 0 (Ru _);show (nB l 0 0).length<=s.size;omega
  ·exact Rl _
 ·exact Rl _
theorem GH {s:N}:∀(n a:Nat)(acc l:Q fQ)(b:Nat),a<=s.size->lT s n a acc=D (l,b)->a<=b/\b<=s.size/\l.length+a<=acc.length+b
 | 0,a,acc,l,b,ha,h=>by
  simp only[lT,RT,Tp] at h;obtain⟨rfl,rfl⟩:=h;omega
 | n+1,a,acc,l,b,ha,h=>by
  obtain⟨q,m,ok,hp⟩:∃ q m ok,iR s (a:Int)=(q,m,ok):=⟨_,_,_,rfl⟩
  cases ok with
  | false=>rw[GI hp] at h;cases h
  | true=>
   obtain⟨t,k,ok,hq⟩:∃ t k ok,jH s (a+m:Nat)=(t,k,ok):=⟨_,_,_,rfl⟩
   cases ok with
   | false=>rw[GJ hp hq] at h;cases h
   | true=>
    by_cases h4:q.length=4
    ·obtain⟨x,y,z,u,rfl⟩:=four h4
     rw[Hh hp hq] at h;have h5:=tV hp;have h6:=tW hq;have:=GH n (a+m+k) _ l b K9 h;rw[Rh,R4] at this;omega
    ·rw[GK hp h4] at h;cases h
theorem LZ (s:N):(nh s).1.length<=s.size:=by
 unfold nh;split
 ·rename_i h0
  obtain⟨n,z,ok,hp⟩:∃ n z ok,iD s 0=(n,z,ok):=⟨_,_,_,rfl⟩
  rw[hp] at h0 |-;simp only at h0 |-;subst h0;have hb:=qJ hp;cases hr:lT s n z [] with
  | none=>exact Rl _
  | some p=>
   obtain⟨l,b⟩:=p;have:=GH n z [] l b K9 hr;simp only[RR] at this;simp only;split
   ·show l.length<=s.size;omega
   ·exact Rl _
 ·exact Rl _
theorem FK {s:N}:∀(n a:Nat)(acc l:Q fC)(b:Nat),a<=s.size->mc s n a acc=D (l,b)->a<=b/\b<=s.size/\lU l+13*a<=lU acc+13*b
 | 0,a,acc,l,b,ha,h=>by
  simp only[mc,RT,Tp] at h;obtain⟨rfl,rfl⟩:=h;omega
 | n+1,a,acc,l,b,ha,h=>by
  obtain⟨t,m,ok,hp⟩:∃ t m ok,jH s (a:Int)=(t,m,ok):=⟨_,_,_,rfl⟩
  cases ok with
  | false=>rw[FM hp] at h;cases h
  | true=>
   obtain⟨q,k,ok,hq⟩:∃ q k ok,iR s (a+m:Nat)=(q,k,ok):=⟨_,_,_,rfl⟩
   cases ok with
   | false=>rw[FN hp hq] at h;cases h
   | true=>
    by_cases h4:q.length=2
    ·obtain⟨x,y,rfl⟩:=two h4
     rw[GL hp hq] at h;have h5:=tW hp;have h6:=tV hq;have:=FK n (a+m+k) _ l b K9 h;rw[Ng] at this;simp only[lU,Sz,List.map_nil,Tu,List.sum_nil] at this |-;omega
    ·rw[FO hp hq h4] at h;cases h
theorem Hi {s:N}:∀(n a:Nat)(acc l:Q N)(b:Nat),a<=s.size->nk s n a acc=D (l,b)->a<=b/\b<=s.size/\l.length=acc.length+n/\((∀ t∈acc,t.size<=s.size)->∀ t∈l,t.size<=s.size)
 | 0,a,acc,l,b,ha,h=>by
  simp only[nk,RT,Tp] at h;obtain⟨rfl,rfl⟩:=h;exact⟨Ru _,ha,rfl,fun h=>h⟩
 | n+1,a,acc,l,b,ha,h=>by
  obtain⟨t,m,ok,hp⟩:∃ t m ok,jH s (a:Int)=(t,m,ok):=⟨_,_,_,rfl⟩
  cases ok with
  | false=>rw[IP hp] at h;cases h
  | true=>
   rw[IQ hp] at h;have h5:=tW hp;have:=Hi n (a+m) _ l b K9 h;rw[Rh,R4] at this;refine⟨K9,this.2.1,K9,fun hh=>this.2.2.2 (fun u hu=>?_)⟩;rcases Rr.1 hu with hu | hu
   ·exact hh u hu
   ·rw[Rc.1 hu];omega
theorem Pq {p:Int}:ui p r=M↔(0<=r.us/\r.us<=1000000)/\(0<=r.fG/\r.fG<=59)/\p<r.us:=by
 unfold ui;rw[Rq,Rq,zu,zu,RC,Vj]
def nr (l l':Q fM):Prop:=∀ x,l[0]?=D x->∃ y,l'[0]?=D y/\y.fG=x.fG
theorem nr.refl (l:Q fM):nr l l:=fun x h=>⟨x,h,rfl⟩
theorem nr.trans {a b c:Q fM}(h:nr a b)(k:nr b c):nr a c:=fun x hx=>by
 obtain⟨y,h1,h2⟩:=h x hx;obtain⟨z,h3,h4⟩:=k y h1;exact⟨z,h3,h4.trans h2⟩
theorem nr.WH (l r:Q fM):nr l (l++r):=fun x h=>⟨x,by rw[SK (Rd.1 h).1];exact h,rfl⟩
theorem nr.set (l:Q fM)(j:Nat)(v:Int):nr l (mD l j v):=fun x h=>by
 unfold mD;cases hy:l[j]? with
 | none=>exact⟨x,h,rfl⟩
 | some y=>
  simp only;by_cases hj:j=0
  ·subst hj
   rw[h] at hy;injection hy with hy
   subst hy;exact⟨{ x with Op:=⟨x.Op.Code,v⟩ },by rw[TN (Rd.1 h).1],rfl⟩
  ·exact⟨x,by rw[UN hj];exact h,rfl⟩
theorem E2:∀(js:Q Int)(l:Q fM)(v:Int),nr l (WO l js v)
 | [],l,v=>.refl l
 | j::js,l,v=>(nr.set l j.toNat v).trans (E2 js _ v)
theorem CC:∀(es:Q (Int × Int))(l:Q fM)(tgt v:Int),nr l (nY l es tgt v)
 | [],l,tgt,v=>.refl l
 | e::es,l,tgt,v=>by
  unfold nY;simp only[TY];split
  ·exact(nr.set l e.2.toNat v).trans (CC es _ tgt v)
  ·exact CC es l tgt v
structure jB (Ra w:Nat)(m m':fT):Prop where
 cnt:max m'.pi.length Ra<=max m.pi.length Ra+w
 fst:nr m.pi m'.pi
theorem jB.refl {Ra:Nat}(m:fT):jB Ra 0 m m:=⟨K9,.refl _⟩
theorem jB.trans {Ra w v:Nat}{a b c:fT}(h:jB Ra w a b)(k:jB Ra v b c):jB Ra (w+v) a c:=⟨by have:=h.cnt;have:=k.cnt;omega,h.fst.trans k.fst⟩
theorem jB.more {a b:fT} (h:jB Ra w a b)(hv:w<=v):jB Ra v a b:=⟨by have:=h.cnt;omega,h.fst⟩
theorem jB.of {a b:fT} (h:b.pi.length<=a.pi.length+w)(hf:nr a.pi b.pi):jB Ra w a b:=⟨K9,hf⟩
theorem De (E:fX)(m:fT)(c a l:Int)(ch:Q Int):jB Ra 1 m (zI E m c a l ch):=.of (by rw[xh];omega) (nr.WH _ _)
theorem s7 (E:fX)(m:fT)(c a l d:Int)(ch:Q Int):jB Ra 1 m ((zI E m c a l ch).gw d):=.of (by simp only[fT.gw,xh];omega) (nr.WH _ _)
theorem Cl (E:fX)(m:fT)(v l:Int)(ch:Q Int):jB Ra 1 m (mg E m v l ch):=s7 ..
theorem CO (E:fX)(m:fT)(s:fH)(i l:Int)(ch:Q Int):jB Ra 1 m (ni E m s i l ch):=s7 ..
theorem Oe (E:fX)(m:fT)(s:fH)(i l:Int):jB Ra 1 m (BH E m s i l):=s7 ..
theorem Gm (m:fT)(es:Q (Int × Int))(t:Int):jB Ra 0 m (lK m es t):=.of (by show (nY m.pi es t m.pi.length).length<=_;rw[(tO _ _ _ _).2];omega) (CC _ _ _ _)
theorem Gl (E:fX)(s:fH)(k:Int)(last:Bool)(L:jk):jB Ra 1 L.m (kQ E s k last L).m:=by
 unfold kQ;split
 ·split <;> exact s7 ..
 ·split
  ·exact .of (by simp[jk.wm,fT.gw]) (.refl _)
  ·exact s7 ..
def wL (E:fX)(rep:Int->fT->fT)(fs:Q Int)(Ra:Nat):Prop:=∀(g:Int)(m:fT),WC E.p g->mZ E fs m g=M->jB Ra 0 m (rep g m)
theorem Ph {E:fX} {rep:Int->fT->fT} {s:fH} {k:Int} {t:gB} {m:fT} (hr:wL E rep fs Ra)(hn:lr E.p s.un t=M):jB Ra 1 m (oJ E rep fs s k t m):=by
 unfold oJ;split
 ·exact Cl ..
 ·split
  ·exact Oe ..
  ·split
   ·rename_i h7
    split
    ·rename_i hrep
     obtain⟨i,x,h1,h2,h3,_⟩:=BV hn h7;exact(hr _ m ⟨i,h1,x,h2,h3⟩ hrep).more K9
    ·exact s7 ..
   ·exact s7 ..
mutual
theorem Ex.jL {E:fX}{rep:Int->fT->fT}{fs:Q Int}{s:fH}{k:Int}{Ra:Nat}(hr:wL E rep fs Ra):∀(e:Ex)(m:fT),kG E.p s.un e.flat=M->jB Ra e.size m (e.comp E rep fs s k m)
 | .node t ks,m,hn=>by
  simp only[Ex.flat,kG,List.all_cons,Rq] at hn;exact((gu.jL hr ks m hn.2).trans (Ph hr hn.1)).more (by simp only[Ex.size];omega)
theorem gu.jL {E:fX}{rep:Int->fT->fT}{fs:Q Int}{s:fH}{k:Int}{Ra:Nat}(hr:wL E rep fs Ra):∀(ks:gu)(m:fT),kG E.p s.un ks.flat=M->jB Ra ks.size m (ks.comp E rep fs s k m)
 | .nil,m,_=>.refl m
 | .cons e r,m,hn=>by
  simp only[gu.flat,kG,Um,Rq] at hn;exact((Ex.jL hr e m hn.1).trans (gu.jL hr r _ hn.2)).more (by simp only[gu.size];omega)
end
theorem EN {Ra:Nat}(E:fX)(x:fH)(k:Int)(ch:Q Int):∀(n:Nat)(m:fT),jB Ra n m (rA E x k ch n m)
 | 0,m=>.refl m
 | n+1,m=>by
  unfold rA;exact((CO E m x n k ch).trans (EN E x k ch n _)).more K9
theorem Fj {Ra:Nat}(E:fX)(x:fH)(k:Int)(ch:Q Int):∀(n i:Nat)(m:fT),jB Ra (2*n) m (tE E x k ch n i m)
 | 0,i,m=>.refl m
 | n+1,i,m=>by
  unfold tE;exact(((Cl E m 0 k ch).trans (CO E _ x i k ch)).trans (Fj E x k ch n (i+1) _)).more K9
theorem Na {E:fX} (hE:gR E){g k:Int}(hg:WC E.p g)(s:fH)(m:fT):jB Ra 21 m (qR E g k s m):=by
 have hp:=hg.parts hE;have a0:(kD E g k s).un=zv E.p g:=rfl;have h1:=EN (Ra:=Ra) E (kD E g k s) k s.io (iK E.p g).length (m.ke (max m.gO (pt E s+(kD E g k s).un.length)));have h2:=Fj (Ra:=Ra) E (kD E g k s) k s.io ((kD E g k s).un.length-(iK E.p g).length) (iK E.p g).length (rA E (kD E g k s) k s.io (iK E.p g).length (m.ke (max m.gO (pt E s+(kD E g k s).un.length))));have h0:jB Ra 0 m (m.ke (max m.gO (pt E s+(kD E g k s).un.length))):=.of (by simp[fT.ke]) (.refl _);rw[a0] at h0 h1 h2;unfold qR;simp only;rw[a0];split
 ·exact(((h0.trans h1).trans h2).trans (De ..)).more K9
 ·exact((h0.trans h1).trans h2).more K9
theorem Od {E:fX} {rep:Int->fT->fT} {s:fH} {x:fw} {L:jk} (hE:gR E)(hr:wL E rep fs Ra)(hx:E.p[k]?=D x)(h7:x.Expr.length<=7)(h0:x.li≠0)(hn:x.li≠7->kG E.p s.un x.Expr=M):jB Ra 8 L.m (lM E rep fs s e k x L).m:=by
 have g0:=Gm (Ra:=Ra) L.m L.fS k;unfold lM;simp only;split
 ·exact((g0.trans (De ..)).trans (Gm ..)).more K9
 ·rename_i k4
  split
  ·split
   ·exact((g0.trans (Cl ..)).trans (Gl (L:=L.wm _) ..)).more K9
   ·refine(g0.trans (?_:jB Ra 1 _ _)).more K9
    show jB Ra 1 _ (nH _ _ _ _ _ _ _);rcases zy E k s.io L.fN (k-(s.f.toNat+1)) (s.f.toNat+1) (lK L.m L.fS k) with⟨h,_⟩ | ⟨j,_,_,_,_,h⟩
    ·rw[h];exact(jB.refl _).more K9
    ·rw[h];exact De ..
  ·rename_i k7
   obtain⟨ee,w1,w2,_⟩:=hE.pc.expr k x hx (CD (zu.1 (hE.pc.kind k x hx)) h0 k4 k7);have a0:ee.size<=7:=by rw[<-ee.gj,<-w2];exact h7
   have g1:=Ex.jL (k:=(k:Int)) hr ee (lK L.m L.fS k).begun (by rw[<-w2];exact hn k7);rw[<-AT w1,<-w2] at g1;have g2:jB Ra 7 L.m (tH E rep fs s k x.Expr (lK L.m L.fS k).begun):=(g0.trans (jB.trans (b:=(lK L.m L.fS k).begun) (jB.of (w:=0) (by simp[fT.begun]) (.refl _)) g1)).more K9;split
   ·exact g2.trans (CO ..)
   ·split
    ·exact g2.trans (s7 ..)
    ·split
     ·exact g2.trans (Gl (L:=⟨_,_,_,_⟩) ..)
     ·exact g2.trans (s7 ..)
def oD (p:Q fw):Prop:=∀(i:Nat)(x:fw),p[i]?=D x->x.Expr.length<=7
theorem Nb {E:fX} {rep:Int->Int->fT->fT} {s:fH} (hE:gR E)(hS:oD E.p)(hs:iv E s)(hr:∀ k:Nat,k<E.p.length->wL E (rep k) fs Ra)(hf:s.f=(i:Int))(he:gz E.p i e) :
  ∀(n k:Nat) (L:jk),i<k->k+n=e+1->jB Ra (8*n) L.m (p8 E rep fs s e (E.p.drop k) n k L).m:=by
 intro n;induction n with
 | zero=>
  intro k L _ _;have:p8 E rep fs s e (E.p.drop k) 0 k L=L:=by cases E.p.drop k <;> rfl
  rw[this];exact .refl _
 | succ n ih=>
  intro k L a4 a7;have a2:k<E.p.length:=by have:=he.len;omega
  have hx:E.p[k]?=D E.p[k]:=Rn a2;rw[Rw a2];obtain⟨i',e',z,w1,w2,w3,w4,w5⟩:=hs.rh;have a6:i'=i:=by rw[hf] at w1;omega
  subst a6;have a5:=w4.WD he;subst a5;have a3:s.un=zv E.p i':=by rw[hs.un.1,hf]
  have a0:k=e'∨k<e':=K9
  have a1:k=e'->(E.p[k]).li=7:=fun h=>by
   subst h;obtain⟨y,hy,h7⟩:=he.last;rw[hx] at hy;injection hy with hy
   rw[hy];exact h7
  have g1:=Od (L:=L) (e:=e') (fs:=fs) (s:=s) hE (hr k a2) hx (hS k _ hx)
   (fun h=>by
    rcases a0 with hk | hk
    ·have:=a1 hk;omega
    ·exact(w5 k _ a4 hk hx).1 h)
   (fun h=>by
    rcases a0 with hk | hk
    ·exact absurd (a1 hk) h
    ·rw[a3];exact(w5 k _ a4 hk hx).2.1)
  exact(g1.trans (ih (k+1) _ K9 K9)).more K9
def vY (d:Nat):Nat:=200+93*d
theorem jB.floor {a b:fT} (h:jB Ra w a b)(ha:a.pi.length<=v)(hb:v<=Ra):b.pi.length<=Ra+w:=by have:=h.cnt;omega
def C7 (E:fX)(lines:Q Int->fH->fT->fT × Q Int)(Ra:Nat)(d:Nat):Prop:=∀(fs:Q Int)(s:fH)(m:fT)(i e:Nat),iv E s->fs.length=s.io.length+1->s.io.length+d=3->s.f=(i:Int)->gz E.p i e->jB Ra (8*(e-i)) m (lines fs s m).1
theorem KY {E:fX} {lines:Q Int->fH->fT->fT × Q Int} {s:fH} {d:Nat} (hE:gR E)(hs:iv E s)(hl:C7 E lines Ra d)(hN:200<=Ra)(hfs:fs.length=s.io.length+1)(hd:s.io.length+(d+1)=3)(hk:k<E.p.length):wL E (fun g m=>jQ E lines fs k s g m) fs (Ra+93):=by
 intro g m hg a0;have a4:=wb a0;have a3:0<=(k:Int)/\(k:Int)<E.p.length:=⟨K9,K9⟩
 have hx:=Bx hE hs hg a3 K9;have g1:=Na (Ra:=Ra) (k:=k) hE hg s m;obtain⟨i,rfl,x,a6,a5⟩:=hg;obtain⟨e,he,_,_⟩:=hE.pc.body i x a6 a5;have a2:=a4.2.1;rw[he.iV] at a2;have a1:(kD E i k s).io.length=s.io.length+1:=by unfold kD;simp
 have g2:=hl (fs++[(i:Int)]) (kD E i k s) (qR E i k s m) i e hx (by rw[a1];simp[hfs]) (by rw[a1];omega) rfl he;have g3:=(g1.trans g2).floor (v:=200) K9 hN;unfold jQ;simp only;refine⟨?_,((g1.trans g2).fst).trans (E2 _ _ _)⟩;simp only[fT.gw,fT.iN,(zb _ _ _).2];omega
theorem F2 {E:fX} (hE:gR E)(hS:oD E.p){d Ra:Nat}(hrep:∀(fs:Q Int)(s:fH)(k:Nat),iv E s->fs.length=s.io.length+1->s.io.length+d=3->k<E.p.length->wL E (fun g m=>jQ E (jc E d) fs k s g m) fs Ra):C7 E (jc E (d+1)) Ra d:=by
 intro fs s m i e hs a1 a2 hf he;have a3:=he.lt;have g1:=Nb (rep:=fun k g m=>jQ E (jc E d) fs k s g m) (fs:=fs) hE hS hs (fun k hk=>hrep fs s k hs a1 a2 hk) hf he (e-i) (i+1) ⟨m,s.ut,RN E.p.length 0,[]⟩ K9 K9
 have a0:(jc E (d+1) fs s m).1=(p8 E (fun k g m=>jQ E (jc E d) fs k s g m) fs s e (E.p.drop (i+1)) (e-i) (i+1) ⟨m,s.ut,RN E.p.length 0,[]⟩).m:=by
  show (wI E (fun fs s k g m=>jQ E (jc E d) fs k s g m) fs s m).1=_;unfold wI;simp only[hf,he.iV,Ry]
 rw[a0];exact g1
theorem Kc {E:fX} (hE:gR E)(hS:oD E.p):∀ d:Nat,C7 E (jc E (d+1)) (vY d) d:=by
 intro d;induction d with
 | zero=>
  refine F2 hE hS (fun fs s k hs hfs hd hk=>?_);intro g m _ a0;have h1:=(wb a0).1;have h2:=hE.inl.2;omega
 | succ d ih=>
  refine F2 hE hS (fun fs s k hs hfs hd hk=>?_);have h:=KY hE hs ih (by unfold vY;omega) hfs hd hk;rw[show vY d+93=vY (d+1) from by unfold vY;omega] at h;exact h
theorem Kt {ww:Int} (hp:j9 p)(hS:oD p)(hb:fP b.IR 0 3=M)(hf:f<(zq p).length)(hw:0<=ww/\ww<=100) :
  (kS p b f ww).1.length<=951/\∃ x g,(kS p b f ww).1[0]?=D x/\(zq p)[f]?=D g/\x.fG=g:=by
 have hg:(zq p)[f]?=D (zq p)[f]:=Rn hf;have hfun:=wk hg;rw[hg];unfold kS;rw[hg];simp only[Te];generalize (zq p)[f]=g at hfun
 have hE:gR ⟨p,b.IR,lB b f,ww,((iK p g).length:Int)⟩:=by
  exact vL
 have a0:=hfun.parts hE;simp only at a0;obtain⟨i,rfl,x,hx,h0⟩:=hfun;obtain⟨e,he,h8,a2⟩:=hp.body i x hx h0;generalize hEE:(⟨p,b.IR,lB b f,ww,((iK p (i:Int)).length:Int)⟩:fX)=E at hE;have a1:E.p=p:=by rw[<-hEE]
 have a4:E.args=((iK p (i:Int)).length:Int):=by rw[<-hEE]
 have aa:=(Rd.1 hx).1
 have hs:iv E ⟨i,[],zv p i,0,M,[]⟩:=by
  refine⟨⟨i,e,x,rfl,by rw[a1];exact hx,h0,by rw[a1];exact he,by rw[a1];exact a2⟩,⟨by rw[a1],h8⟩,⟨Tz _,II⟩,⟨II,fun c hc=>(by cases hc)⟩,fun _=>⟨rfl,rfl,by rw[a4];simp only;omega⟩⟩
 have a5:((zI E ⟨[],0,((zv p i).length:Int)-((iK p (i:Int)).length:Int),I⟩ (if lB b f=M then 13 else 15) ww i []).gw ww).pi.length=1:=by simp[zI,fT.gw]
 have a3:∃ x,((zI E ⟨[],0,((zv p i).length:Int)-((iK p (i:Int)).length:Int),I⟩ (if lB b f=M then 13 else 15) ww i []).gw ww).pi[0]?=D x/\x.fG=(i:Int):=⟨_,rfl,rfl⟩
 generalize (zI E ⟨[],0,((zv p i).length:Int)-((iK p (i:Int)).length:Int),I⟩ (if lB b f=M then 13 else 15) ww i []).gw ww=Q4 at a5 a3 |-;have hL:=(Kc hE (by rw[a1];exact hS) 3) [(i:Int)] ⟨i,[],zv p i,0,M,[]⟩ Q4 i e hs rfl rfl rfl (by rw[a1];exact he);have h5:=he.len;have h6:=hp.len;have h7:=hL.floor (v:=1) K9 (by unfold vY;omega);unfold vY at h7;rw[show 3+1=4 from rfl] at h7;obtain⟨x0,a6,a7⟩:=a3;obtain⟨y0,a8,a9⟩:=hL.fst x0 a6;exact⟨K9,y0,(i:Int),a8,rfl,a9.trans a7⟩
theorem Ku (hp:zx p=M)(hS:oD p)(hb:jP b=M)(hf:f<(zq p).length):(ki p b f).length<=951/\∃ x g,(ki p b f)[0]?=D x/\(zq p)[f]?=D g/\x.fG=g:=by
 have hF:=qB hp;unfold jP at hb;rw[Rq] at hb
 have a2:∀ q:Q fw,j9 q->oD q->f<(zq q).length->(kS q b f (kS q b f 0).2).1.length<=951/\∃ x g,(kS q b f (kS q b f 0).2).1[0]?=D x/\(zq q)[f]?=D g/\x.fG=g:=by
  intro q hq a3 a1;obtain⟨_,_,_,h4,h5⟩:=zH (ww:=0) hq hb.2 a1 ⟨K9,K9⟩;exact Kt hq a3 hb.2 a1 ⟨h4,K9⟩
 unfold ki;simp only;split
 ·have a4:qE p=p.map jY:=by unfold qE;rw[Rs hp]
  rw[a4];have a0:=a2 _ hF.fold ?_ (by rw[xW];exact hf)
  ·rw[xW] at a0
   exact a0
  intro i y hy;obtain⟨x,hx,rfl⟩:=tX hy;have h7:=hS i x hx;unfold jY;split
  ·rename_i hl
   by_cases he:rB x.li=M
   ·have h1:=(sE (hF.line i x hx)).2.2.2
    unfold rG at h1;rw[Rs he] at h1;obtain⟨e,g1,g2,g3,g4⟩:=zm h1;obtain⟨e',w1,w2,w3⟩:=e.ig g1;simp only;rw[g4,<-w2,e'.gj];rw[g2,e.gj] at h7;omega
   ·have h1:=(sE (hF.line i x hx)).2.2.2
    unfold rG at h1;rw[Ro he] at h1;simp only[RC] at h1;omega
  ·exact h7
 ·exact a2 _ hF.c hS hf
theorem Ct (a:Int):∀(n k:Nat),(qm a n k).length=n
 | 0,_=>rfl
 | n+1,k=>by simp[qm,Ct a n]
theorem At (h:kA x=M):(jR x).size=(iy x.Code).1+1:=by
 unfold jR;rw[Rs h];show ((pP x.Code::qm x.Wv (iy x.Code).1 0).toArray).size=_;simp[Ct]
theorem CZ (h:kA x=M):0<=x.Code/\x.Code<=17:=by
 unfold kA at h;rw[Rq] at h;exact zu.1 h.1
theorem Kz (h:kA x=M):((jR x).size:Int)=zS x.Code:=by
 have hc:=CZ h;rw[At h];unfold zS;rw[Rs (zu.2 hc)];omega
theorem KX (h:kA x=M)(pre rest:N):lL (pre++(jR x++rest)) pre.size=x.Code.toNat:=by
 have hc:=CZ h;unfold lL;rw[TV,TV,Array.toList_append,Array.toList_append,Sd II];rw[show pre.size-pre.data.toList.length=0 from II];unfold jR;rw[Rs h];simp only[TQ,RW,TK,Te];unfold pP;rw[Int.emod_eq_of_lt K9 K9];have:x.Code.toNat<256:=K9;simp;omega
theorem MI (h:kA x=M)(pre rest:N):(je (pre++(jR x++rest)) (pre.size:Nat)).ok=M/\(je (pre++(jR x++rest)) (pre.size:Nat)).n=(jR x).size:=by
 have hc:=CZ h;have h1:=KX h pre rest;have h2:=At h;have hs:(pre++(jR x++rest)).size=pre.size+((jR x).size+rest.size):=by simp[Sg]
 have a0:((x.Code.toNat:Nat):Int)=x.Code:=K9;have hd:=CP (s:=pre++(jR x++rest)) (a:=pre.size) (c:=x.Code.toNat) (w:=(iy x.Code).1) (sg:=(iy x.Code).2) K9 h1 K9 (by rw[a0]) K9;rw[hd];exact⟨rfl,h2.symm⟩
def nZ:Q me->N
 | []=>Wy
 | x::r=>jR x++nZ r
theorem Pt:Wy.size=0:=rfl
theorem Dw (b:N):Wy++b=b:=U6 (by rw[TV];simp[Wy])
theorem Bo (b:N):b++Wy=b:=U6 (by rw[TV];simp[Wy])
theorem Ij:∀(l:Q me)(pre:N),(∀ x∈l,kA x=M)->kV (pre++nZ l) pre.size=M
 | [],pre,_=>E5 (by simp only[nZ,Bo];omega)
 | x::r,pre,h=>by
  have hx:=h x (.head _);have a0:=At hx;obtain⟨h1,h2⟩:=MI hx pre (nZ r);simp only[nZ];rw[Co (by simp only[Sg];omega) h1,h2];have h3:=Ij r (pre++jR x) (fun y hy=>h y (.tail _ hy));rw[SW,Sg] at h3;exact h3
theorem Oi {l:Q me} (h:∀ x∈l,kA x=M):kV (nZ l) 0=M:=by
 have:=Ij l Wy h;rwa [Dw] at this
structure lP where
 name:N
 ops:Q me
def lP.code (b:lP):N:=nZ b.ops
def oF:Q lP->N
 | []=>Wy
 | b::r=>b.code++oF r
def pS:Q lP->Nat->Q fC
 | [],_=>[]
 | b::r,a=>⟨b.name,a,b.code.size⟩::pS r (a+b.code.size)
structure nK (b:lP):Prop where
 name:kZ b.name=M
 ops:∀ x∈b.ops,kA x=M
 pos:0<b.ops.length
theorem nK.size {b:lP}(h:nK b):1<=b.code.size:=by
 unfold lP.code;have hp:=h.pos;have ho:=h.ops;cases hb:b.ops with
 | nil=>rw[hb] at hp;simp at hp
 | cons x r=>
  rw[hb] at ho;simp only[nZ,Sg];have:=At (ho x (.head _));omega
theorem Ga:∀(l:Q lP)(pre:N)(prev:Q N),(∀ b∈l,nK b)->(l.map lP.name).Nodup->(∀ b∈l,b.name∉prev)->jr (pre++oF l) (pS l pre.size) prev pre.size=M
 | [],pre,prev,_,_,_=>by simp[jr,pS,oF,Bo]
 | b::r,pre,prev,h,hd,hp=>by
  have hb:=h b (.head _);have hs:=hb.size;have a2:(pre++oF (b::r)).size=pre.size+(b.code.size+(oF r).size):=by simp only[oF,Sg]
  have a1:(pre++oF (b::r)).extract pre.size (pre.size+b.code.size)=b.code:=by
   simp only[oF];rw[<-SW,ByteArray.extract_append,Sg,St];rw[ByteArray.extract_append_eq_right rfl rfl];apply U6;rw[TV,ByteArray.data_extract];simp
  simp only[Sz,TX] at hd
  have ih:=Ga r (pre++b.code) (prev++[b.name]) (fun c hc=>h c (.tail _ hc)) hd.2 (fun c hc hm=>by
   rcases Rr.1 hm with hm | hm
   ·exact hp c (.tail _ hc) hm
   ·rw[Rc] at hm
    exact hd.1 (hm ▸ List.mem_map_of_mem hc))
  rw[SW,Sg] at ih;simp only[pS,jr,Ry,a2];rw[a1]
  have hn:prev.any (fun y=>decide (y=b.name))=I:=by
   rw[List.any_eq_false];intro y hy he;simp only[RC] at he;exact hp b (.head _) (he ▸ hy)
  have a0:kV b.code 0=M:=Oi hb.ops;simp only[hn,hb.name,a0];simp only[Vf,Bool.and_true,Rq,RC];exact⟨⟨⟨trivial,K9⟩,K9⟩,ih⟩
def DM (l:Q lP):gv:=⟨oF l,pS l 0⟩
theorem KE {l:Q lP} (h:∀ b∈l,nK b)(hd:(l.map lP.name).Nodup)(hs:(oF l).size<=1000000):jw (DM l)=M:=by
 unfold jw DM;have:=Ga l Wy [] h hd (fun b _ hm=>by cases hm);rw[Dw] at this;simp only[Rq,RC];exact⟨hs,this⟩
theorem xU (st:Q Int):∀(l:Q fM)(k j:Nat),(rm st l k)[j]?=(l[j]?).map (mN st (k+j))
 | [],_,_=>rfl
 | x::r,k,0=>rfl
 | x::r,k,j+1=>by
  simp only[rm,Tg];rw[xU st r (k+1) j,show k+1+j=k+(j+1) from by omega]
theorem BY (st:Q Int):∀(l:Q fM)(k:Nat),(rm st l k).length=l.length
 | [],_=>rfl
 | x::r,k=>by simp[rm,BY st r]
theorem GD (c:Int):0<=zS c/\zS c<=5:=by
 unfold zS;split
 ·have:=rI c
  omega
 ·omega
theorem FD:∀(l:Q fM)(a:Int)(j:Nat),j<=l.length->∃ v,(mr l a)[j]?=D v/\a<=v/\v<=a+5*(j:Int)
 | [],a,j,h=>by
  have:j=0:=by simpa using h
  subst this;exact⟨a,rfl,K9,K9⟩
 | x::r,a,0,_=>⟨a,rfl,K9,K9⟩
 | x::r,a,j+1,h=>by
  obtain⟨v,h1,h2,h3⟩:=FD r (a+zS x.Op.Code) j (by simpa using h);have:=GD x.Op.Code;exact⟨v,by simp only[mr,Tg];exact h1,K9,K9⟩
theorem Dg {l:Q fM} {a:Int} (h:j<=l.length):a<=(mr l a).getD j 0/\(mr l a).getD j 0<=a+5*(j:Int):=by
 obtain⟨v,h1,h2,h3⟩:=FD l a j h;rw[Sf,h1];exact⟨h2,h3⟩
theorem Pp {l:Q fM} {a:Int} (h:iB p l)(hl:l.length<=6000){j:Nat}{x:fK}(hx:(lQ l a)[j]?=D x):kA x.lw.Op=M/\∃ y,l[j]?=D y/\x.lw.Op.Code=y.Op.Code/\x.lw.fG=y.fG:=by
 unfold lQ at hx;rw[xU,RF] at hx;cases hy:l[j]? with
 | none=>rw[hy] at hx;cases hx
 | some y=>
  rw[hy] at hx;simp only[TK,RT] at hx;subst hx;have a1:=(Rd.1 hy).1;have hi:=h j y hy;have hc:=hi.code;unfold mN;by_cases hjmp:y.Op.Code=10∨y.Op.Code=11
  ·rw[Rs hjmp]
   simp only;refine⟨?_,y,rfl,rfl,rfl⟩;have hj:=hi.jump hjmp;have h1:=Dg (l:=l) (a:=a) (j:=y.Op.Wv.toNat) (by omega);have h2:=Dg (l:=l) (a:=a) (j:=j+1) (by omega)
   have hw:iy y.Op.Code=(2,M):=by
    unfold iy;rw[Ro (by omega),Rs (by omega)]
   unfold kA;simp only[hw,TI,Rq];exact⟨zu.2 hc,zu.2 ⟨by show (-32768:Int)<=_;omega,by show _<=(32767:Int);omega⟩⟩
  ·rw[Ro hjmp]
   refine⟨?_,y,rfl,rfl,rfl⟩;unfold kA;rw[Rq];refine⟨zu.2 hc,?_⟩;have a0:y.Op.Code=0∨(1<=y.Op.Code/\y.Op.Code<=4)∨((5<=y.Op.Code/\y.Op.Code<=9)∨y.Op.Code=17)∨(12<=y.Op.Code/\y.Op.Code<=15)∨y.Op.Code=16:=by omega
   rcases a0 with c | c | c | c | c
   ·have:=hi.lit c
    have hw:iy y.Op.Code=(4,M):=by unfold iy;rw[Rs c]
    rw[hw];exact zu.2 ⟨by simp;omega,by simp;omega⟩
   ·have:=hi.var c.1 c.2
    have hw:iy y.Op.Code=(2,M):=by unfold iy;rw[Ro (by omega),Rs (by omega)]
    rw[hw];exact zu.2 ⟨by simp;omega,by simp;omega⟩
   ·have:=hi.op c
    have hw:iy y.Op.Code=(0,I):=by unfold iy;rw[Ro (by omega),Ro (by omega),Ro (by omega),Ro (by omega)]
    rw[hw,this];rfl
   ·have:=hi.WQ c.1 c.2
    have hw:iy y.Op.Code=(1,I):=by unfold iy;rw[Ro (by omega),Ro (by omega),Ro (by omega),Rs (by omega)]
    rw[hw];exact zu.2 ⟨by simp;omega,by simp;omega⟩
   ·have:=hi.ret c
    have hw:iy y.Op.Code=(2,I):=by unfold iy;rw[Ro (by omega),Ro (by omega),Rs c]
    rw[hw];exact zu.2 ⟨by simp;omega,by simp;omega⟩
def qk (p:Q fw)(x:fK):Prop:=x.lw.Op.Code=13∨x.lw.Op.Code=15/\kP p x.lw.fG=0
theorem Ei (l:Q fC)(x:fC)(n:Int):qp (l++[x]) n=l++[{ x with gH:=n-x.kw }]:=by
 unfold qp;simp
def qw (l:Q fK):Q me:=l.map fun x=>x.lw.Op
theorem Hl (p:Q fw):∀(l:Q fK)(c:N)(ss:Q fC)(nm:N)(st:Int),(∀ x∈l,¬ qk p x)->
  l.foldl (nc p) ⟨c,ss++[⟨nm,st,c.size-st⟩]⟩=⟨c++nZ (qw l),ss++[⟨nm,st,(c++nZ (qw l)).size-st⟩]⟩
 | [],c,ss,nm,st,_=>by simp[qw,nZ,Bo]
 | x::r,c,ss,nm,st,h=>by
  have hx:=h x (.head _);unfold qk at hx;rw[TY]
  have:nc p ⟨c,ss++[⟨nm,st,c.size-st⟩]⟩ x=⟨c++jR x.lw.Op,ss++[⟨nm,st,(c++jR x.lw.Op).size-st⟩]⟩:=by
   unfold nc;simp only[Ro hx,Ei]
  rw[this,Hl p r _ ss nm st (fun y hy=>h y (.tail _ hy))];simp only[qw,Sz,nZ,SW]
theorem PW (p:Q fw)(x:fK)(r:Q fK)(c:N)(ss:Q fC)(hx:qk p x)(ho:x.us=(c.size:Int))(h:∀ y∈r,¬ qk p y) :
  (x::r).foldl (nc p) ⟨c,ss⟩=⟨c++nZ (qw (x::r)),ss++[⟨mj p x.lw.fG,c.size,(nZ (qw (x::r))).size⟩]⟩:=by
 rw[TY];unfold qk at hx
 have:nc p ⟨c,ss⟩ x=⟨c++jR x.lw.Op,ss++[⟨mj p x.lw.fG,c.size,(c++jR x.lw.Op).size-c.size⟩]⟩:=by
  unfold nc;simp only[Rs hx,Ei,ho]
 rw[this,Hl p r _ ss _ _ h];simp only[qw,Sz,nZ,SW,Sg];congr 3;congr 1;omega
theorem Cd:∀(l:Q fM)(a:Int),0<=mw l a-a/\mw l a-a<=5*(l.length:Int)
 | [],a=>by simp[mw]
 | x::r,a=>by
  have h:=Cd r (a+zS x.Op.Code);have h2:=GD x.Op.Code;simp only[mw,RA];omega
theorem EP:∀(l:Q me),(∀ x∈l,kA x=M)->((nZ l).size:Int)=(l.map fun x=>zS x.Code).sum
 | [],_=>rfl
 | x::r,h=>by
  simp only[nZ,Sg,Sz,Tu,Int.natCast_add];rw[Kz (h x (.head _)),EP r (fun y hy=>h y (.tail _ hy))]
theorem GW:∀(l:Q fM)(a:Int),mw l a=a+(l.map fun x=>zS x.Op.Code).sum
 | [],a=>by simp[mw]
 | x::r,a=>by
  simp only[mw,Sz,Tu,GW r];omega
theorem LJ (l:Q fM)(a:Int):(qw (lQ l a)).map (fun x=>zS x.Code)=l.map fun x=>zS x.Op.Code:=by
 apply U3;intro j;unfold qw lQ;simp only[UI,xU,Option.map_map];cases l[j]? with
 | none=>rfl
 | some x=>
  simp only[TK,Function.comp];unfold mN;split <;> rfl
structure jI (p:Q fw)(f:Nat)(l:Q fM):Prop where
 ok:iB p l
 pos:0<l.length
 len:l.length<=951
 line:∃ x g,l[0]?=D x/\(zq p)[f]?=D g/\x.fG=g
def qv (p:Q fw)(f:Nat)(l:Q fM)(a:Int):lP:=⟨mj p ((zq p).getD f 0),qw (lQ l a)⟩
theorem Cu {l:Q fM} {a:Int} {x:fK} (h:(lQ l a)[j]?=D x):∃ y,l[j]?=D y/\x=mN (mr l a) j y:=by
 unfold lQ at h;rw[xU,RF] at h;cases hy:l[j]? with
 | none=>rw[hy] at h;cases h
 | some y=>
  rw[hy] at h;simp only[TK,RT] at h;exact⟨y,rfl,h.symm⟩
theorem xd (st:Q Int)(j:Nat)(y:fM):(mN st j y).lw.fG=y.fG/\(mN st j y).lw.Op.Code=y.Op.Code:=by
 unfold mN;split <;> exact⟨rfl,rfl⟩
theorem jI.first {p:Q fw}{f:Nat}{l:Q fM}(h:jI p f l)(a:Int){j:Nat}{x:fK}(hx:(lQ l a)[j]?=D x):j=0↔qk p x:=by
 obtain⟨y,hy,rfl⟩:=Cu hx;have:=(h.ok j y hy).first;unfold qk;rw[(xd _ _ _).1,(xd _ _ _).2];exact this
theorem jI.iX {l:Q fM} (h:jI p f l)(a:Int):(∀ x∈(qv p f l a).ops,kA x=M)/\0<(qv p f l a).ops.length/\((qv p f l a).code.size:Int)=mw l a-a:=by
 have h1:∀ x∈(qv p f l a).ops,kA x=M:=by
  intro x hx;unfold qv qw at hx;simp only[Ul] at hx;obtain⟨y,hy,rfl⟩:=hx;obtain⟨j,hj⟩:=TG hy;exact(Pp h.ok (by have:=h.len;omega) hj).1
 refine⟨h1,?_,?_⟩
 ·unfold qv qw lQ
  simp only[Uy,BY];exact h.pos
 ·unfold lP.code
  rw[EP _ h1,GW];show (qw (lQ l a) |>.map fun x=>zS x.Code).sum=_;rw[LJ];omega
theorem jI.wS {l:Q fM} (h:jI p f l)(c:N)(ss:Q fC):(lQ l c.size).foldl (nc p) ⟨c,ss⟩=⟨c++(qv p f l c.size).code,ss++[⟨(qv p f l c.size).name,c.size,(qv p f l c.size).code.size⟩]⟩:=by
 obtain⟨x,g,hx,hg,hl⟩:=h.line;have a0:∀(j:Nat) (y:fK),(lQ l c.size)[j]?=D y->(j=0↔qk p y):=fun j y hy=>h.first c.size hy
 have h0:(lQ l c.size)[0]?=D (mN (mr l c.size) 0 x):=by
  unfold lQ;rw[xU,RF,hx];rfl
 unfold lP.code qv;cases hp:lQ l c.size with
 | nil=>rw[hp] at h0;cases h0
 | cons u r=>
  rw[hp] at h0 a0;simp only[RW,RT] at h0
  have ho:u.us=(c.size:Int):=by
   rw[h0];show (mr l c.size).getD 0 0=_;cases l <;> rfl
  have a1:u.lw.fG=g:=by rw[h0,(xd _ _ _).1];exact hl
  rw[PW p u r c ss ((a0 0 u rfl).1 rfl) ho (fun y hy hf=>by
   obtain⟨j,hj⟩:=TG hy;have:=(a0 (j+1) y (by rw[Tg];exact hj)).2 hf
   omega)]
  rw[a1,Sf,hg];rfl
def lR (p:Q fw)(b:fY)(image:Int):Nat->Nat->Int->Q lP
 | 0,_,_=>[]
 | n+1,f,a=>if ny b f image=M then qv p f (ki p b f) a::lR p b image n (f+1) (mw (ki p b f) a) else lR p b image n (f+1) a
theorem Dp {p:Q fw}{b:fY}{image:Int}(hF:∀ f,f<(zq p).length->jI p f (ki p b f)):∀(n f:Nat)(c:N)(ss:Q fC),f+n<=(zq p).length->
  (mX p b image n f c.size).foldl (nc p) ⟨c,ss⟩=⟨c++oF (lR p b image n f c.size),ss++pS (lR p b image n f c.size) c.size⟩
 | 0,f,c,ss,_=>by simp[mX,lR,oF,pS,Bo]
 | n+1,f,c,ss,h=>by
  simp only[mX,lR];split
  ·have hi:=hF f K9
   have hs:=(hi.iX (c.size:Int)).2.2;rw[List.foldl_append,hi.wS]
   have he:mw (ki p b f) (c.size:Int)=((c++(qv p f (ki p b f) c.size).code).size:Int):=by
    rw[Sg];omega
   rw[he,Dp hF n (f+1) _ _ K9];simp only[oF,pS,SW,RU,List.singleton_append,Sg]
  ·exact Dp hF n (f+1) c ss K9
theorem Bf {p:Q fw}{b:fY}{image:Int}:∀(n f:Nat)(a:Int),∀ x∈lR p b image n f a,∃ g a',f<=g/\g<f+n/\ny b g image=M/\x=qv p g (ki p b g) a'
 | 0,f,a,x,h=>by cases h
 | n+1,f,a,x,h=>by
  simp only[lR] at h;split at h
  ·rename_i hi
   rcases RO.1 h with rfl | h
   ·exact⟨f,a,Ru _,K9,hi,rfl⟩
   ·obtain⟨g,a',h1,h2,h3,h4⟩:=Bf n (f+1) _ x h
    exact⟨g,a',K9,K9,h3,h4⟩
  ·obtain⟨g,a',h1,h2,h3,h4⟩:=Bf n (f+1) _ x h
   exact⟨g,a',K9,K9,h3,h4⟩
theorem C9 {p:Q fw}{b:fY}{image:Int}:∀(n f:Nat)(a:Int)(g:Nat),f<=g->g<f+n->ny b g image=M->∃ x∈lR p b image n f a,x.name=mj p ((zq p).getD g 0)
 | 0,f,a,g,h1,h2,_=>K9
 | n+1,f,a,g,h1,h2,hi=>by
  simp only[lR];by_cases hg:g=f
  ·subst hg
   rw[Rs hi];exact⟨_,.head _,rfl⟩
  ·split
   ·obtain⟨x,hx,hn⟩:=C9 n (f+1) _ g K9 K9 hi
    exact⟨x,.tail _ hx,hn⟩
   ·exact C9 n (f+1) _ g K9 K9 hi
theorem Cr {p:Q fw}{b:fY}{image:Int}(hd:∀ f g,f<g->g<(zq p).length->mj p ((zq p).getD f 0)≠mj p ((zq p).getD g 0)):∀(n f:Nat)(a:Int),f+n<=(zq p).length->((lR p b image n f a).map lP.name).Nodup
 | 0,f,a,_=>by simp[lR]
 | n+1,f,a,h=>by
  simp only[lR];split
  ·rw[Sz,TX]
   refine⟨fun hm=>?_,Cr hd n (f+1) _ K9⟩;simp only[Ul] at hm;obtain⟨x,hx,hn⟩:=hm;obtain⟨g,a',h1,h2,_,rfl⟩:=Bf n (f+1) _ x hx;exact hd f g K9 K9 hn.symm
  ·exact Cr hd n (f+1) _ K9
theorem Gj:∀(l:Q lP)(Ra:Nat),(∀ b∈l,b.code.size<=Ra)->(oF l).size<=Ra*l.length
 | [],Ra,_=>by simp[oF,Pt]
 | b::r,Ra,h=>by
  have h1:=h b (.head _);have h2:=Gj r Ra (fun c hc=>h c (.tail _ hc));simp only[oF,Sg,RA,Nat.mul_succ];omega
theorem CR:∀(l:Q fw)(i:Nat),∀ x∈lu l i,(i:Int)<=x
 | [],_,x,h=>by cases h
 | y::r,i,x,h=>by
  unfold lu at h;split at h
  ·rcases RO.1 h with rfl | h
   ·exact Tz _
   ·have:=CR r (i+1) x h;omega
  ·have:=CR r (i+1) x h;omega
theorem Dl:∀(l:Q fw)(i:Nat),(lu l i).Pairwise (· < ·)
 | [],_=>.nil
 | y::r,i=>by
  unfold lu;split
  ·refine List.pairwise_cons.2 ⟨fun x hx=>?_,Dl r (i+1)⟩
   have:=CR r (i+1) x hx;omega
  ·exact Dl r (i+1)
theorem xm {x:fw} (h:p[i]?=D x):mj p (i:Int)=x.pu:=by
 unfold mj;rw[Ry,h];rfl
theorem NP (hp:zx p=M)(f g:Nat)(h:f<g)(hg:g<(zq p).length):mj p ((zq p).getD f 0)≠mj p ((zq p).getD g 0):=by
 have hF:=qB hp;have hf:f<(zq p).length:=K9;have e1:(zq p)[f]?=D (zq p)[f]:=Rn hf;have e2:(zq p)[g]?=D (zq p)[g]:=Rn hg;have a0:=(List.pairwise_iff_getElem.1 (Dl p 0)) f g hf hg h;obtain⟨i,hi,x,hx,x0⟩:=wk e1;obtain⟨j,hj,y,hy,y0⟩:=wk e2;rw[Sf,Sf,e1,e2];simp only[Te];rw[hi,hj,xm hx,xm hy];intro hn;have h1:=hF.own i x hx x0;have h2:=hF.own j y hy y0;rw[hn] at h1;have a1:(zq p)[f]<(zq p)[g]:=a0;omega
theorem Lw (hp:zx p=M){f:Nat}(hf:f<(zq p).length):kZ (mj p ((zq p).getD f 0))=M:=by
 have hF:=qB hp;have e1:(zq p)[f]?=D (zq p)[f]:=Rn hf;obtain⟨i,hi,x,hx,x0⟩:=wk e1;rw[Sf,e1];simp only[Te];rw[hi,xm hx];exact hF.c.name i x hx x0
theorem I2 (hp:zx p=M)(hS:oD p)(hb:jP b=M)(f:Nat)(hf:f<(zq p).length):jI p f (ki p b f):=by
 obtain⟨h1,h2,_⟩:=Cc hp hb hf;obtain⟨h3,h4⟩:=Ku hp hS hb hf;exact⟨h1,h2,h3,h4⟩
def tY (p:Q fw)(b:fY)(image:Int):Q lP:=lR p b image (zq p).length 0 0
theorem Es (hp:zx p=M)(hS:oD p)(hb:jP b=M)(hi:fP image 0 1=M):jz p b image=DM (tY p b image):=by
 unfold jz jZ;rw[Rs ⟨hp,hb,hi⟩];have h:=Dp (image:=image) (I2 hp hS hb) (zq p).length 0 Wy [] K9;rw[Dw] at h;exact h
theorem DV {p:Q fw}{b:fY}{image:Int}(hs:b.NE=M):∀(n f:Nat)(a:Int),(lR p b image n f a).length<=(n+1) / 2
 | 0,f,a=>by simp[lR]
 | 1,f,a=>by
  simp only[lR];split <;> simp[lR]
 | n+2,f,a=>by
  have a0:∀ g:Int,ny b g image=decide (g % 2=image):=fun g=>by unfold ny;rw[Rs hs]
  simp only[lR,a0,RC];have h1:=fun a=>DV hs n (f+1+1) a (p:=p) (image:=image);split
  ·rw[Ro K9]
   have:=h1 (mw (ki p b f) a);simp only[RA];omega
  ·split
   ·have:=h1 (mw (ki p b (f+1)) a)
    simp only[RA];omega
   ·have:=h1 a
    omega
theorem Da {p:Q fw}{b:fY}{image:Int}:∀(n f:Nat)(a:Int),(lR p b image n f a).length<=n
 | 0,f,a=>by simp[lR]
 | n+1,f,a=>by
  simp only[lR];split
  ·have:=Da n (f+1) (mw (ki p b f) a) (p:=p) (b:=b) (image:=image)
   simp only[RA];omega
  ·have:=Da n (f+1) a (p:=p) (b:=b) (image:=image)
   omega
theorem Gh {p:Q fw}{b:fY}(hs:b.NE=I):∀(n f:Nat)(a:Int),lR p b 1 n f a = []
 | 0,f,a=>rfl
 | n+1,f,a=>by
  simp only[lR];rw[Ro (by unfold ny;rw[hs];simp),Gh hs n]
theorem FX (hp:zx p=M)(hS:oD p)(hb:jP b=M):(∀ x∈tY p b image,nK x/\x.code.size<=4755)/\((tY p b image).map lP.name).Nodup:=by
 refine⟨fun x hx=>?_,Cr (NP hp) _ _ _ K9⟩;obtain⟨g,a,_,h2,_,rfl⟩:=Bf _ _ _ x hx;have hI:=I2 hp hS hb g K9;obtain⟨h3,h4,h5⟩:=hI.iX a;have h6:=Cd (ki p b g) a;have h7:=hI.len;exact⟨⟨Lw hp K9,h3,h4⟩,K9⟩
theorem xk (hp:zx p=M)(hS:oD p)(hb:jP b=M)(hi:fP image 0 1=M):jw (jz p b image)=M/\(jz p b image).Code.size<=4755*(tY p b image).length:=by
 obtain⟨h1,h2⟩:=FX (image:=image) hp hS hb;have hz:=Gj (tY p b image) 4755 (fun x hx=>(h1 x hx).2);have hl:(tY p b image).length<=(zq p).length:=Da _ _ _;have h6:=(qB hp).my;rw[Es hp hS hb hi];exact⟨KE (fun x hx=>(h1 x hx).1) h2 K9,hz⟩
def qK (i:gv)(base:Int)(nm:N):Q Int:=(i.fm.filter fun x=>decide (x.pu=nm)).map fun x=>base+x.kw
def qG (p:Q fw)(b:fY)(i0 i1:gv)(b0 b1:Int):Nat->Nat->Q Int
 | 0,_=>[]
 | n+1,f=>(if b.NE=M/\f % 2=1 then qK i1 b1 (mj p ((zq p).getD f 0)) else qK i0 b0 (mj p ((zq p).getD f 0)))++qG p b i0 i1 b0 b1 n (f+1)
def zn (p:Q fw)(b:fY)(b0 b1:Int):gk:=
 ⟨[jz p b 0,jz p b 1],[b0,b1],qG p b (jz p b 0) (jz p b 1) b0 b1 (zq p).length 0⟩
theorem GX:∀(l:Q lP)(a:Nat)(nm:N),(l.map lP.name).Nodup->(∃ x∈l,x.name=nm)->((pS l a).filter fun x=>decide (x.pu=nm)).length=1
 | [],a,nm,_,h=>by obtain⟨x,hx,_⟩:=h;cases hx
 | b::r,a,nm,hd,h=>by
  simp only[Sz,TX] at hd;by_cases hb:b.name=nm
  ·have a0:((pS r (a+b.code.size)).filter fun x=>decide (x.pu=nm)) = []:=by
    rw[UJ];intro s hs he;simp only[RC] at he;refine hd.1 ?_;rw[hb,<-he]
    have a1:∀(l:Q lP) (a:Nat),∀ s∈pS l a,s.pu∈l.map lP.name:=by
     intro l;induction l with
     | nil=>intro a s hs;cases hs
     | cons c l ih=>
      intro a s hs;simp only[pS] at hs;rcases RO.1 hs with rfl | hs
      ·simp
      ·rw[Sz];exact .tail _ (ih _ s hs)
    exact a1 r _ s hs
   simp only[pS];rw[List.filter_cons_of_pos (by simpa using hb),a0];rfl
  ·simp only[pS]
   rw[List.filter_cons_of_neg (by simpa using hb)];refine GX r _ nm hd.2 ?_;obtain⟨x,hx,hn⟩:=h;rcases RO.1 hx with rfl | hx
   ·exact absurd hn hb
   ·exact⟨x,hx,hn⟩
theorem EW {i:gv} {base:Int} {nm:N} {e:Int} (h:e∈qK i base nm):∃ x∈i.fm,base+x.kw=e:=by
 unfold qK at h;simp only[Ul,List.mem_filter] at h;obtain⟨x,⟨hx,_⟩,he⟩:=h;exact⟨x,hx,he⟩
theorem Eu {p:Q fw}{b:fY}{i0 i1:gv}{b0 b1:Int}:∀(n f:Nat),∀ e∈qG p b i0 i1 b0 b1 n f,(∃ x∈i0.fm,b0+x.kw=e)∨∃ x∈i1.fm,b1+x.kw=e
 | 0,f,e,h=>by cases h
 | n+1,f,e,h=>by
  simp only[qG] at h;rcases Rr.1 h with h | h
  ·split at h
   ·exact .inr (EW h)
   ·exact .inl (EW h)
  ·exact Eu n (f+1) e h
theorem zh {p:Q fw}{b:fY}(hp:zx p=M)(hS:oD p)(hb:jP b=M){b0 b1:Int}:∀(n f:Nat),f+n<=(zq p).length->(qG p b (jz p b 0) (jz p b 1) b0 b1 n f).length=n
 | 0,f,_=>rfl
 | n+1,f,h=>by
  have a1:∀(a0 base:Int),fP a0 0 1=M->ny b f a0=M->(qK (jz p b a0) base (mj p ((zq p).getD f 0))).length=1:=by
   intro a0 base hi a2;unfold qK;rw[Uy,Es hp hS hb hi];exact GX _ _ _ (FX hp hS hb).2 (C9 _ _ _ f (Rl _) K9 a2)
  simp only[qG,Rh];rw[zh hp hS hb n (f+1) K9];split
  ·rename_i hc
   rw[a1 1 b1 rfl (by unfold ny;rw[Rs hc.1];simp only[RC];omega)];omega
  ·rename_i hc
   rw[a1 0 b0 rfl (by
    unfold ny;cases hsp:b.NE with
    | true=>
     have:¬ f % 2=1:=fun h=>hc ⟨hsp,h⟩;simp only[TI,RC];omega
    | false=>simp)]
   omega
theorem Ee {b0 b1:Int} (hp:zx p=M)(hS:oD p)(h4:(zq p).length<=4)(hb:jP b=M)(h0:1<=b0/\b0<=9000)(h1:20000<=b1/\b1<=1000000):zZ (zn p b b0 b1)=M:=by
 obtain⟨k0,s0⟩:=xk (image:=0) hp hS hb rfl;obtain⟨k1,s1⟩:=xk (image:=1) hp hS hb rfl
 have a2:1<=(zq p).length:=by
  obtain⟨x,hx,x0,_⟩:=(qB hp).head;unfold zq;cases hpp:p with
  | nil=>rw[hpp] at hx;cases hx
  | cons y r=>
   rw[hpp] at hx;simp only[RW,RT] at hx;subst hx;simp[lu,x0]
 have a1:Bl (zn p b b0 b1)=I:=by
  unfold Bl zn;simp only[Up,SJ];cases hsp:b.NE with
  | true=>
   have:(tY p b 0).length<=((zq p).length+1) / 2:=DV hsp _ _ _;right;omega
  | false=>
   have:tY p b 1 = []:=Gh hsp _ _ _;rw[this] at s1;simp only[RR,Nat.mul_zero] at s1;left;left;right;omega
 unfold zZ;rw[a1];have a0:=zh hp hS hb (b0:=b0) (b1:=b1) (zq p).length 0 (by omega);simp only[Rq];refine⟨⟨⟨⟨⟨⟨rfl,rfl⟩,?_⟩,?_⟩,?_⟩,rfl⟩,?_⟩
 ·show fP (((qG p b (jz p b 0) (jz p b 1) b0 b1 (zq p).length 0).length:Nat):Int) 1 6=M
  rw[a0];exact zu.2 ⟨by omega,by omega⟩
 ·simp[zn,k0,k1]
 ·simp only[zn,List.all_cons,List.all_nil,Bool.and_true,Rq]
  exact⟨zu.2 ⟨by omega,by omega⟩,zu.2 ⟨by omega,by omega⟩⟩
 ·rw[Td]
  intro e he;unfold kI zn;simp only[List.zip_cons_cons,List.zip_nil_right,List.any_cons,List.any_nil,Bool.or_false,UQ,Ts,RC];exact Eu _ _ e he
end Go.Proofs.YthgbglbaemelhaaGreat
