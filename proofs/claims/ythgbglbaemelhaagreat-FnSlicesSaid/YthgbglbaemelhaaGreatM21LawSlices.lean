/-
  PART.
-/
import Derived.Test.YthgbglbaemelhaaGreatM14LawSlices
import Derived.Test.YthgbglbaemelhaaGreatM19LawSlices
import Derived.Test.YthgbglbaemelhaaGreatM20LawSlices
set_option linter.unusedVariables false
set_option linter.unusedSimpArgs false
set_option maxRecDepth 100000
set_option maxHeartbeats 8000000
namespace Go.Proofs.YthgbglbaemelhaaGreat
open Option renaming none->D,some->Z
open Bool renaming false->I,true->M
open _root_.Int renaming toNat_natCast->Ra
open List renaming length_cons->Rc,length_nil->Ru,length_singleton->RD,sum_cons->SV
open Go.RowKit
variable {a k m n z:Nat}{acc:Q fQ}{b c y:Int}{l:Q Int}{r:ir}{s t:N}{x:fC}
def rO (b:Bool):Int:=if b=M then 1 else 0
def qk:Q gJ->Int->Q Int
 | [],_=>[]
 | r::l,last=>(r.Start-last)::(r.End-r.Start)::rO r.Frame::r.fE::qk l r.End
def pj (l:Q gJ):N:=if qA 0 l=M then nW (qk l 0) else emp
def mQ:Q Int->Int->Q gJ
 | a::b::c::d::l,last=>⟨last+a,last+a+b,decide (c=1),d⟩::mQ l (last+a+b)
 | _,_=>[]
def oE (s:N):Q gJ × Bool:=
 if (iP s 0).2.2=M/\(iP s 0).2.1=s.size/\(iP s 0).1.length % 4=0 then
  (if pj (mQ (iP s 0).1 0)=s then (mQ (iP s 0).1 0,M) else ([],I))
 else ([],I)
def qx:Q ir->Int->Int->Q Int
 | [],_,_=>[]
 | r::l,o,n=>(r.Offset-o)::(r.fH-n)::rO r.Start::qx l r.Offset r.fH
def pv (l:Q ir):N:=if qC (-1) l=M then nW (qx l 0 0) else emp
def nk:Q Int->Int->Int->Q ir
 | a::b::c::l,o,n=>⟨o+a,n+b,decide (c=1)⟩::nk l (o+a) (n+b)
 | _,_,_=>[]
def oL (s:N):Q ir × Bool:=
 if (iP s 0).2.2=M/\(iP s 0).2.1=s.size/\(iP s 0).1.length % 3=0 then
  (if pv (nk (iP s 0).1 0 0)=s then (nk (iP s 0).1 0 0,M) else ([],I))
 else ([],I)
def wZ (x:fQ):N:=nW [x.Start,x.End,x.Level,x.fH]++p8 x.Name
def ry:Q fQ->N->N
 | [],s=>s
 | x::l,s=>ry l (s++wZ x)
def oQ (l:Q fQ):N:=if vK l=M then ry l (jo l.length) else emp
def lM (s:N):Nat->Nat->Q fQ->X (Q fQ × Nat)
 | 0,a,acc=>Z (acc,a)
 | n+1,a,acc=>match iP s a with
  | ([x,y,z,u],m,M)=>if (jB s (a+m:Nat)).2.2=M then lM s n (a+m+(jB s (a+m:Nat)).2.1) (acc++[⟨x,y,z,u,(jB s (a+m:Nat)).1⟩]) else D
  | _=>D
def mV (s:N):Q fQ × Bool:=
 if (iE s 0).2.2=M then match lM s (iE s 0).1 (iE s 0).2.1 [] with
  | some (l,_)=>if oQ l=s then (l,M) else ([],I)
  | none=>([],I)
 else ([],I)
def tK (s:N):Int:=(s.data.toList.map fun b=>(b.toNat:Int)).sum
def vY (x:fC):N:=p8 x.Name++nW [x.Start,x.gK]
def sc:Q fC->N->N
 | [],s=>s
 | x::l,s=>sc l (s++vY x)
def sd (x:fC):Bool:=fT x.Start 0 1000000 && fT x.gK 0 1000000
def sO (d:gE):N:=sc d.fm (jo d.Id++jo d.fm.length)++(p8 (pj d.fY)++p8 (pv d.Rows)++p8 (oQ d.fI))
def mI (d:gE):N:=
 if fT d.Id 0 1099511627775=M/\qA 0 d.fY=M/\qC (-1) d.Rows=M/\vK d.fI=M/\d.fm.all sd=M then sO d++jo (tK (sO d)) else emp
def lW (s:N):Nat->Nat->Q fC->X (Q fC × Nat)
 | 0,a,acc=>Z (acc,a)
 | n+1,a,acc=>if (jB s a).2.2=M then match iP s (a+(jB s a).2.1:Nat) with
  | ([x,y],m,M)=>lW s n (a+(jB s a).2.1+m) (acc++[⟨(jB s a).1,x,y⟩])
  | _=>D
  else D
def mZ (s:N):Nat->Nat->Q N->X (Q N × Nat)
 | 0,a,acc=>Z (acc,a)
 | n+1,a,acc=>if (jB s a).2.2=M then mZ s n (a+(jB s a).2.1) (acc++[(jB s a).1]) else D
def vQ:gE:=⟨0,[],[],[],[]⟩
def IA (id:Int)(syms:Q fC):Q N->X gE
 | [x,y,z]=>if (oE x).2=M/\(oL y).2=M/\(mV z).2=M then Z ⟨id,syms,(oE x).1,(oL y).1,(mV z).1⟩ else D
 | _=>D
def yr (s:N):X gE:=
 if (iE s 0).2.2=M/\(iE s (iE s 0).2.1).2.2=M then
  match lW s (iE s (iE s 0).2.1).1 ((iE s 0).2.1+(iE s (iE s 0).2.1).2.1) [] with
  | some (syms,a)=>match mZ s 3 a [] with
   | some (ps,_)=>IA (iE s 0).1 syms ps
   | none=>D
  | none=>D
 else D
def qz (s:N):gE × Bool:=match yr s with
 | some d=>if mI d=s then (d,M) else (vQ,I)
 | none=>(vQ,I)
/-! at a place of a list -/
theorem KX {xs:Q gJ} {r:gJ} (h:xs[k]?=Z r)(last:Int):qk (xs.drop k) last=(r.Start-last)::(r.End-r.Start)::rO r.Frame::r.fE::qk (xs.drop (k+1)) r.End:=by
 obtain⟨h1,rfl⟩:=QM.1 h;rw[Q6 h1];rfl
theorem LK {xs:Q ir} (h:xs[k]?=Z r)(o n:Int):qx (xs.drop k) o n=(r.Offset-o)::(r.fH-n)::rO r.Start::qx (xs.drop (k+1)) r.Offset r.fH:=by
 obtain⟨h1,rfl⟩:=QM.1 h;rw[Q6 h1];rfl
theorem sG {α:Type} {l:Q α} {a:α} (h:l[k]?=Z a):l.drop k=a::l.drop (k+1):=by
 obtain⟨h1,rfl⟩:=QM.1 h;exact Q6 h1
theorem J8 {a d:Int} (h0:l[k]?=Z a)(h1:l[k+1]?=Z b)(h2:l[k+2]?=Z c)(h3:l[k+3]?=Z d)(last:Int):mQ (l.drop k) last=⟨last+a,last+a+b,decide (c=1),d⟩::mQ (l.drop (k+4)) (last+a+b):=by
 rw[sG h0,sG h1,sG h2,sG h3];rfl
theorem KW {a:Int} (h0:l[k]?=Z a)(h1:l[k+1]?=Z b)(h2:l[k+2]?=Z c)(o n:Int):nk (l.drop k) o n=⟨o+a,n+b,decide (c=1)⟩::nk (l.drop (k+3)) (o+a) (n+b):=by
 rw[sG h0,sG h1,sG h2];rfl
theorem OG {xs:Q fQ} {x:fQ} (h:xs[k]?=Z x)(s:N):ry (xs.drop k) s=ry (xs.drop (k+1)) (s++wZ x):=by
 rw[sG h];rfl
theorem Oo {xs:Q fC} (h:xs[k]?=Z x)(s:N):sc (xs.drop k) s=sc (xs.drop (k+1)) (s++vY x):=by
 rw[sG h];rfl
/-! sizes -/
theorem mr (a b:N):(a++b).size=a.size+b.size:=RI
theorem xZ (l:Q Int):(nW l).size<=6+6*l.length:=by
 unfold nW;split
 ·rw[Ho,QR,Dt]
  have h1:=pq l.length;have h2:=MM l l.length;rw[RX] at h2;omega
 ·exact QX _
theorem sI (s:N):(p8 s).size<=6+s.size:=by
 unfold p8;rw[mr];have:=pq s.size;omega
theorem DP:∀(l:Q gJ)(a:Int),(qk l a).length=4*l.length
 | [],_=>rfl
 | r::l,a=>by simp only[qk,Rc,DP l];omega
theorem Ey:∀(l:Q ir)(a b:Int),(qx l a b).length=3*l.length
 | [],_,_=>rfl
 | r::l,a,b=>by simp only[qx,Rc,Ey l];omega
theorem DJ (l:Q gJ):(pj l).size<=6+24*l.length:=by
 unfold pj;split
 ·have:=xZ (qk l 0)
  rw[DP] at this;omega
 ·exact QX _
theorem DZ (l:Q ir):(pv l).size<=6+18*l.length:=by
 unfold pv;split
 ·have:=xZ (qx l 0 0)
  rw[Ey] at this;omega
 ·exact QX _
theorem Cy (h:kU s=M):s.size<=8:=by
 unfold kU at h;rw[Q4] at h;have:=zu.1 h.2;omega
theorem MA (x:fQ):(wZ x).size<=36+x.Name.size:=by
 unfold wZ;rw[mr];have h1:=xZ [x.Start,x.End,x.Level,x.fH];have h2:=sI x.Name;simp only[Rc,Ru] at h1;omega
theorem CG {xs:Q fQ}:∀(l:Q fQ)(k:Nat),wg xs k l=M->∀ x∈l,kU x.Name=M
 | [],_,_,x,hx=>absurd hx (by simp)
 | y::l,k,h,x,hx=>by
  rw[wg,Q4] at h;rcases Rp.1 hx with rfl | hx
  ·have h1:=h.1
   unfold lj jO at h1;simp only[Q4] at h1;exact h1.1.1.2
  ·exact CG l (k+1) h.2 x hx
theorem ET:∀(l:Q fQ)(s:N),(∀ x∈l,kU x.Name=M)->s.size<=(ry l s).size/\(ry l s).size<=s.size+44*l.length
 | [],s,_=>⟨Q8 _,by simp[ry]⟩
 | x::l,s,h=>by
  have h1:=ET l (s++wZ x) (fun y hy=>h y (Sm _ hy));rw[mr] at h1;have h2:=MA x;have h3:=Cy (h x Tc);simp only[ry,Rc];omega
theorem Ek (l:Q fQ):(oQ l).size<=6+44*l.length:=by
 unfold oQ;split
 ·rename_i h
  have h1:=(ET l (jo l.length) (CG l 0 h)).2;have h2:=pq l.length;omega
 ·exact QX _
def lN (l:Q fC):Nat:=(l.map fun x=>x.Name.size+24).sum
theorem NV (a b:Q fC):lN (a++b)=lN a+lN b:=by simp[lN]
theorem NW (l:Q fC):24*l.length<=lN l:=by
 induction l with
 | nil=>simp[lN]
 | cons x l ih=>simp only[lN,RS,SV,Rc] at ih |-;omega
theorem NX {l:Q fC} (h:x∈l):x.Name.size<=lN l:=by
 induction l with
 | nil=>cases h
 | cons y l ih=>
  simp only[lN,RS,SV] at ih |-;rcases Rp.1 h with rfl | h
  ·omega
  ·have:=ih h;omega
theorem NU (x:fC):(vY x).size<=x.Name.size+24:=by
 unfold vY;rw[mr];have h1:=xZ [x.Start,x.gK];have h2:=sI x.Name;simp only[Rc,Ru] at h1;omega
theorem yW:∀(l:Q fC)(s:N),s.size<=(sc l s).size/\(sc l s).size<=s.size+lN l
 | [],s=>⟨Q8 _,Tu _ _⟩
 | x::l,s=>by
  have h1:=yW l (s++vY x);rw[mr] at h1;have h2:=NU x;simp only[sc,lN,RS,SV] at h1 |-;omega
theorem Kg (d:gE):(sO d).size<=60+lN d.fm+24*d.fY.length+18*d.Rows.length+44*d.fI.length:=by
 unfold sO;simp only[mr];have h1:=(yW d.fm (jo d.Id++jo d.fm.length)).2;rw[mr] at h1;have h2:=pq d.Id;have h3:=pq d.fm.length;have h4:=sI (pj d.fY);have h5:=sI (pv d.Rows);have h6:=sI (oQ d.fI);have h7:=DJ d.fY;have h8:=DZ d.Rows;have h9:=Ek d.fI;omega
/-! reading -/
theorem GW {s:N}{a:Nat}:∀(c z:Nat)(acc:Q Int)(l:Q Int)(n:Nat),a+z<=s.size->pG s a c z acc=Z (l,n)->(∀ x∈acc,-1099511627776<=x/\x<=1099511627776)->z<=n/\a+n<=s.size/\l.length+z=acc.length+c+z/\c+z<=n/\∀ x∈l,-1099511627776<=x/\x<=1099511627776
 | 0,z,acc,l,n,hz,h,ha=>by
  simp only[pG,Rv,SM] at h;obtain⟨rfl,rfl⟩:=h;exact⟨Q8 _,hz,rfl,by omega,ha⟩
 | c+1,z,acc,l,n,hz,h,ha=>by
  obtain⟨m,t,ok,hp⟩:∃ m t ok,iE s ((a:Int)+z)=(m,t,ok):=⟨_,_,_,rfl⟩
  rw[pG,hp] at h;cases ok with
  | false=>simp at h
  | true=>
   simp only[Tk] at h;have hb:=qu hp
   have:=GW c (z+t) (acc++[signed m]) l n (by omega) h (fun x hx=>by
    rcases Q7.1 hx with hx | hx
    ·exact ha x hx
    ·rw[QN.1 hx];exact xN m)
   rw[QR,RD] at this;refine⟨by omega,this.2.1,by omega,by omega,this.2.2.2.2⟩
theorem tA (h:iP s a=(l,z,M)):1<=z/\a+z<=s.size/\l.length<z/\∀ x∈l,-1099511627776<=x/\x<=1099511627776:=by
 obtain⟨m,t,ok,hp⟩:∃ m t ok,iE s (a:Int)=(m,t,ok):=⟨_,_,_,rfl⟩
 unfold iP at h;rw[hp] at h;cases ok with
 | false=>simp at h
 | true=>
  simp only[Tk] at h;have hb:=qu hp;cases hg:pG s a m t [] with
  | none=>rw[hg] at h;simp[yq] at h
  | some p=>
   obtain⟨l',n⟩:=p;rw[hg] at h;simp only[yq,SM,TO] at h;obtain⟨rfl,rfl⟩:=h;have:=GW m t [] l' n (by omega) hg (by simp);simp only[Ru,Rk] at this;exact⟨by omega,this.2.1,by omega,this.2.2.2.2⟩
theorem vy {g:Prop} (f:g:=by
  split at h
  ·cases h
  ·injection h with h1 h2
   injection h2 with h2 _
   exact⟨h1.symm,h2.symm⟩):g:=f
theorem AR {a:Int} (h:iP s a=(l,z,I)):l = []/\z=0:=by
 unfold iP at h;split at h
 ·unfold yq at h
  exact vy
 ·injection h with h1 h2
  injection h2 with h2 _
  exact⟨h1.symm,h2.symm⟩
theorem tB (h:jB s a=(t,z,M)):1<=z/\a+z<=s.size/\t.size<=z:=by
 obtain⟨n,y,ok,hp⟩:∃ n y ok,iE s a=(n,y,ok):=⟨_,_,_,rfl⟩
 unfold jB at h;rw[hp] at h;cases ok with
 | false=>simp at h
 | true=>
  obtain⟨h1,h2,h3,h4,h5⟩:=qu hp;by_cases hf:n<=s.size-a-y
  ·simp only[Tr,Ra,Rg,hf,Tk,SM,TO] at h
   obtain⟨rfl,rfl⟩:=h;refine⟨by omega,by omega,?_⟩;rw[Uk];omega
  ·simp[hf] at h
theorem Hw {a:Int} (h:jB s a=(t,z,I)):t=emp/\z=0:=by
 unfold jB at h;exact vy
theorem Gd (h:iP s a=(l,m,I)):lM s (n+1) a acc=D:=by
 obtain⟨rfl,rfl⟩:=AR h;rw[lM,h]
theorem Ge (h:iP s a=(l,m,M))(h2:jB s (a+m:Nat)=(t,z,I)):lM s (n+1) a acc=D:=by
 rw[lM,h];split
 ·rename_i hh
  injection hh with h3 h4
  injection h4 with h4 _
  subst h4;rw[h2];rfl
 ·rfl
theorem Gf (h:iP s a=(l,m,M))(h2:l.length≠4):lM s (n+1) a acc=D:=by
 rw[lM,h];split
 ·rename_i hh
  injection hh with h3 h4
  subst h3;exact absurd rfl h2
 ·rfl
theorem Hc {x z u:Int} (h:iP s a=([x,y,z,u],m,M))(h2:jB s (a+m:Nat)=(t,k,M)):lM s (n+1) a acc=lM s n (a+m+k) (acc++[⟨x,y,z,u,t⟩]):=by
 rw[lM,h];simp only;rw[h2];rfl
theorem FD {acc:Q fC} (h:jB s a=(t,m,I)):lW s (n+1) a acc=D:=by
 rw[lW,h];rfl
theorem FE {acc:Q fC} (h:jB s a=(t,m,M))(h2:iP s (a+m:Nat)=(l,z,I)):lW s (n+1) a acc=D:=by
 obtain⟨rfl,rfl⟩:=AR h2;rw[lW,h];simp only[Tk];rw[h2]
theorem FF {acc:Q fC} (h:jB s a=(t,m,M))(h2:iP s (a+m:Nat)=(l,z,M))(h3:l.length≠2):lW s (n+1) a acc=D:=by
 rw[lW,h];simp only[Tk];rw[h2];split
 ·rename_i hh
  injection hh with h4 h5
  subst h4;exact absurd rfl h3
 ·rfl
theorem Gg {acc:Q fC} {x:Int} (h:jB s a=(t,m,M))(h2:iP s (a+m:Nat)=([x,y],z,M)):lW s (n+1) a acc=lW s n (a+m+z) (acc++[⟨t,x,y⟩]):=by
 rw[lW,h];simp only[Tk];rw[h2]
theorem Hm {acc:Q N} (h:jB s a=(t,z,I)):mZ s (n+1) a acc=D:=by rw[mZ,h];rfl
theorem Hn {acc:Q N} (h:jB s a=(t,z,M)):mZ s (n+1) a acc=mZ s n (a+z) (acc++[t]):=by rw[mZ,h];rfl
theorem four (h:l.length=4):∃ x y z u,l = [x,y,z,u]:=by
 match l,h with
 | [x,y,z,u],_=>exact⟨_,_,_,_,rfl⟩
theorem two (h:l.length=2):∃ x y,l = [x,y]:=by
 match l,h with
 | [x,y],_=>exact⟨_,_,rfl⟩
theorem Kh (s:N):(oE s).1.length<=s.size:=by
 unfold oE
 have a0:∀(n:Nat) (l:Q Int) (a:Int),l.length<=n->(mQ l a).length<=n:=by
  intro n;induction n with
  | zero=>intro l a h;cases l with
   | nil=>simp[mQ]
   | cons x l=>simp at h
  | succ n ih=>
   intro l a h
   match l,h with
   | [],_=>simp[mQ]
   | [_],_=>simp[mQ]
   | [_,_],_=>simp[mQ]
   | [_,_,_],_=>simp[mQ]
   | x::y::z::u::l,h=>
    simp only[mQ,Rc] at h |-;have:=ih l (a+x+y) (by omega);omega
 split
 ·rename_i h
  split
  ·obtain⟨l,z,ok,hp⟩:∃ l z ok,iP s (0:Nat)=(l,z,ok):=⟨_,_,_,rfl⟩
   have h0:=h.1;have e:iP s 0=iP s ((0:Nat):Int):=rfl;rw[e,hp] at h0 |-;simp only at h0;subst h0;have:=tA hp;have h2:=a0 l.length l 0 (Q8 _);show (mQ l 0).length<=s.size;omega
  ·exact QX _
 ·exact QX _
theorem KL (s:N):(oL s).1.length<=s.size:=by
 unfold oL
 have a0:∀(n:Nat) (l:Q Int) (a b:Int),l.length<=n->(nk l a b).length<=n:=by
  intro n;induction n with
  | zero=>intro l a b h;cases l with
   | nil=>simp[nk]
   | cons x l=>simp at h
  | succ n ih=>
   intro l a b h
   match l,h with
   | [],_=>simp[nk]
   | [_],_=>simp[nk]
   | [_,_],_=>simp[nk]
   | x::y::z::l,h=>
    simp only[nk,Rc] at h |-;have:=ih l (a+x) (b+y) (by omega);omega
 split
 ·rename_i h
  split
  ·obtain⟨l,z,ok,hp⟩:∃ l z ok,iP s (0:Nat)=(l,z,ok):=⟨_,_,_,rfl⟩
   have h0:=h.1;have e:iP s 0=iP s ((0:Nat):Int):=rfl;rw[e,hp] at h0 |-;simp only at h0;subst h0;have:=tA hp;have h2:=a0 l.length l 0 0 (Q8 _);show (nk l 0 0).length<=s.size;omega
  ·exact QX _
 ·exact QX _
theorem Gc {s:N}:∀(n a:Nat)(acc l:Q fQ)(b:Nat),a<=s.size->lM s n a acc=Z (l,b)->a<=b/\b<=s.size/\l.length+a<=acc.length+b
 | 0,a,acc,l,b,ha,h=>by
  simp only[lM,Rv,SM] at h;obtain⟨rfl,rfl⟩:=h;omega
 | n+1,a,acc,l,b,ha,h=>by
  obtain⟨q,m,ok,hp⟩:∃ q m ok,iP s (a:Int)=(q,m,ok):=⟨_,_,_,rfl⟩
  cases ok with
  | false=>rw[Gd hp] at h;cases h
  | true=>
   obtain⟨t,k,ok,hq⟩:∃ t k ok,jB s (a+m:Nat)=(t,k,ok):=⟨_,_,_,rfl⟩
   cases ok with
   | false=>rw[Ge hp hq] at h;cases h
   | true=>
    by_cases h4:q.length=4
    ·obtain⟨x,y,z,u,rfl⟩:=four h4
     rw[Hc hp hq] at h;have h5:=tA hp;have h6:=tB hq;have:=Gc n (a+m+k) _ l b (by omega) h;rw[QR,RD] at this;omega
    ·rw[Gf hp h4] at h;cases h
theorem LR (s:N):(mV s).1.length<=s.size:=by
 unfold mV;split
 ·rename_i h0
  obtain⟨n,z,ok,hp⟩:∃ n z ok,iE s 0=(n,z,ok):=⟨_,_,_,rfl⟩
  rw[hp] at h0 |-;simp only at h0 |-;subst h0;have hb:=qu hp;cases hr:lM s n z [] with
  | none=>exact QX _
  | some p=>
   obtain⟨l,b⟩:=p;have:=Gc n z [] l b (by omega) hr;simp only[Ru] at this;simp only;split
   ·show l.length<=s.size;omega
   ·exact QX _
 ·exact QX _
theorem FC {s:N}:∀(n a:Nat)(acc l:Q fC)(b:Nat),a<=s.size->lW s n a acc=Z (l,b)->a<=b/\b<=s.size/\lN l+13*a<=lN acc+13*b
 | 0,a,acc,l,b,ha,h=>by
  simp only[lW,Rv,SM] at h;obtain⟨rfl,rfl⟩:=h;omega
 | n+1,a,acc,l,b,ha,h=>by
  obtain⟨t,m,ok,hp⟩:∃ t m ok,jB s (a:Int)=(t,m,ok):=⟨_,_,_,rfl⟩
  cases ok with
  | false=>rw[FD hp] at h;cases h
  | true=>
   obtain⟨q,k,ok,hq⟩:∃ q k ok,iP s (a+m:Nat)=(q,k,ok):=⟨_,_,_,rfl⟩
   cases ok with
   | false=>rw[FE hp hq] at h;cases h
   | true=>
    by_cases h4:q.length=2
    ·obtain⟨x,y,rfl⟩:=two h4
     rw[Gg hp hq] at h;have h5:=tB hp;have h6:=tA hq;have:=FC n (a+m+k) _ l b (by omega) h;rw[NV] at this;simp only[lN,RS,List.map_nil,SV,List.sum_nil] at this |-;omega
    ·rw[FF hp hq h4] at h;cases h
theorem Hd {s:N}:∀(n a:Nat)(acc l:Q N)(b:Nat),a<=s.size->mZ s n a acc=Z (l,b)->a<=b/\b<=s.size/\l.length=acc.length+n/\((∀ t∈acc,t.size<=s.size)->∀ t∈l,t.size<=s.size)
 | 0,a,acc,l,b,ha,h=>by
  simp only[mZ,Rv,SM] at h;obtain⟨rfl,rfl⟩:=h;exact⟨Q8 _,ha,rfl,fun h=>h⟩
 | n+1,a,acc,l,b,ha,h=>by
  obtain⟨t,m,ok,hp⟩:∃ t m ok,jB s (a:Int)=(t,m,ok):=⟨_,_,_,rfl⟩
  cases ok with
  | false=>rw[Hm hp] at h;cases h
  | true=>
   rw[Hn hp] at h;have h5:=tB hp;have:=Hd n (a+m) _ l b (by omega) h;rw[QR,RD] at this;refine⟨by omega,this.2.1,by omega,fun hh=>this.2.2.2 (fun u hu=>?_)⟩;rcases Q7.1 hu with hu | hu
   ·exact hh u hu
   ·rw[QN.1 hu];omega
/-! what was written is read again -/
theorem Oh {p:Int}:tI p r=M↔(0<=r.Offset/\r.Offset<=1000000)/\(0<=r.fH/\r.fH<=59)/\p<r.Offset:=by
 unfold tI;rw[Q4,Q4,zu,zu,Rg,UU]
end Go.Proofs.YthgbglbaemelhaaGreat
