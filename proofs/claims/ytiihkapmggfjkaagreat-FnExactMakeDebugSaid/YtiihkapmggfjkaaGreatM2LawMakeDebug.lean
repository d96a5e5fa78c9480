/-
  PART.
-/
import Derived.Test.YtiihkapmggfjkaaGreatM0LawMakeDebug
import Derived.Test.YtiihkapmggfjkaaGreatProg
import Derived.BigQuiet
import Derived.BigRegion
import Derived.Deep.QuietTactic
import Derived.OrdersHeld
import Derived.RegionTactic
set_option linter.unusedVariables false
set_option linter.unusedSimpArgs false
set_option maxRecDepth 100000
set_option maxHeartbeats 8000000
namespace Go.Proofs.YtiihkapmggfjkaaGreat
open Value renaming slice->J,int->F,bool->X
open IntKind renaming i64->I
open Option renaming none->V,some->H
open Obj renaming cells->C
open Bool renaming false->U,true->M
open Go renaming World->N,Value->LA,Calls->LR,Addr->Mh,yielded->NA
open World renaming cell?->Lg,frozen?->LD
open List renaming length_cons->LJ,set_cons_zero->Mi,take_succ_cons->Mm,nil_append->Mw,getElem?_cons_succ->MV,cons_append->OW
open _root_.Array renaming length_toList->Mx
open Region renaming wanted->MI,ready->MK,Mode->Nz,noSelect->ND,free->Oq
open Ending renaming returned->NB
open Tryz
variable {P:Program}{S' cs:Q Nat}{a b x:Int}{cur:Array LA}{d f i m n:Nat}{e:TypeId}{listed:Array Bool}{o oi:Oper}{ops:Array Oper}{os:Array Obj}{v:LA}{w:N}
section
variable {α:Type}
def lk (cnt:α->Nat)(xs:Q α):Nat:=(xs.map cnt).sum
def nq (mk:α->Int->α)(cnt:α->Nat):Q α->Int->Q α
 | [],_=>[]
 | x::xs,k=>mk x k::nq mk cnt xs (k+(cnt x:Nat))
variable {mk:α->Int->α} {cnt:α->Nat}
theorem uI (x:α)(xs:Q α):lk cnt (x::xs)=cnt x+lk cnt xs:=by simp[lk]
theorem yA {xs:Q α} {x:α} (h:xs[i]?=H x):lk cnt (xs.take (i+1))=lk cnt (xs.take i)+cnt x:=by
 rw[lJ h];simp[lk]
theorem Bx (xs:Q α)(i:Nat):lk cnt (xs.take i)<=lk cnt xs:=by
 induction xs generalizing i with
 | nil=>simp[lk]
 | cons x xs ih=>
  cases i with
  | zero=>simp[lk]
  | succ i=>rw[Mm,uI,uI];have:=ih i;omega
theorem ns (xs:Q α)(k:Int):(nq mk cnt xs k).length=xs.length:=by
 induction xs generalizing k with
 | nil=>rfl
 | cons x xs ih=>simp[nq,ih]
theorem OX {xs:Q α} {x:α} (h:xs[i]?=H x)(k:Int):(nq mk cnt xs k)[i]?=H (mk x (k+(lk cnt (xs.take i):Nat))):=by
 induction xs generalizing i k with
 | nil=>simp at h
 | cons y ys ih=>
  cases i with
  | zero=>simp at h;subst h;simp[nq,lk]
  | succ i=>
   rw[MV] at h;simp only[nq,MV,Mm,uI];rw[ih h];congr 2;omega
def m8 (mk:α->Int->α)(cnt:α->Nat)(xs:Q α)(k:Int)(i:Nat):Q α:=(nq mk cnt xs k).take i++xs.drop i
theorem tr (xs:Q α)(k:Int):m8 mk cnt xs k 0=xs:=by simp[m8]
theorem tu (xs:Q α)(k:Int):m8 mk cnt xs k xs.length=nq mk cnt xs k:=by
 unfold m8;rw[MA (by rw[ns];omega),LY,MC]
theorem tv {xs:Q α} {x:α} (h:xs[i]?=H x)(k:Int):(m8 mk cnt xs k i)[i]?=H x:=by
 have hi:=(Lh.1 h).1;unfold m8;rw[LV (by rw[MG,ns];omega),MG,ns,N7 (by omega),Mq,NO,Nat.add_zero,h]
theorem tw {xs:Q α} {x:α} (h:xs[i]?=H x)(k:Int):(m8 mk cnt xs k i).set i (mk x (k+(lk cnt (xs.take i):Nat)))=m8 mk cnt xs k (i+1):=by
 have hi:=(Lh.1 h).1;have hm:=OX (mk:=mk) (cnt:=cnt) h k;unfold m8;rw[lJ hm,N9 _ _ (by rw[MG,ns];omega),MG,ns,N7 (by omega),Mq]
 have e:xs.drop i=x::xs.drop (i+1):=by
  rw[LI hi,(Lh.1 h).2]
 rw[e,Mi,LZ];rfl
end
open Go.RowKit
def oZ (cur:Array LA)(p:Nat):Nat->Q LA->Array LA
 | _,[]=>cur
 | j,v::vs=>oZ (cur.setIfInBounds (p+j) v) p (j+1) vs
def qz (l:Q LA)(p:Nat):Nat->Q LA->Q LA
 | _,[]=>l
 | j,v::vs=>qz (l.set (p+j) v) p (j+1) vs
theorem xp (vs:Q LA):∀(cur:Array LA)(p j:Nat),(oZ cur p j vs).toList=qz cur.toList p j vs:=by
 induction vs with
 | nil=>intro cur p j;rfl
 | cons v vs ih=>intro cur p j;simp only[oZ,qz];rw[ih,Oh]
theorem GG (vs:Q LA):∀(l:Q LA)(p j:Nat),(qz l p j vs).length=l.length:=by
 induction vs with
 | nil=>intro l p j;rfl
 | cons v vs ih=>intro l p j;simp only[qz];rw[ih,Ma]
theorem yO (vs:Q LA)(cur:Array LA)(p j:Nat):(oZ cur p j vs).size=cur.size:=by
 rw[<-Mx,xp,GG,Mx]
theorem DN (vs:Q LA):∀(l:Q LA)(p j:Nat),p+j+vs.length<=l.length->qz l p j vs=l.take (p+j)++(vs++l.drop (p+j+vs.length)):=by
 induction vs with
 | nil=>intro l p j _;simp[qz]
 | cons v vs ih=>
  intro l p j h;simp only[LJ] at h;have hl:(l.take (p+j)).length=p+j:=by rw[MG];omega
  simp only[qz];rw[ih _ _ _ (by rw[Ma];omega),LJ,show p+(j+1)=p+j+1 from rfl,List.drop_set_of_lt (by omega),ME,List.take_set_of_le (Lz _),MP (by omega)];simp only[Option.toList_some,LZ,OW,Mw];rw[show p+j+1+vs.length=p+j+(vs.length+1) from by omega]
theorem IW (vs:Q LA)(l:Q LA)(p:Nat)(h:p+vs.length<=l.length):(qz l p 0 vs).take (p+vs.length)=l.take p++vs:=by
 rw[DN vs l p 0 (by omega),<-LZ];rw[N1 (by rw[Lj,MG];omega),MA (by rw[Lj,MG];omega)];rfl
theorem DQ {α:Type} {T:Ty α} {os1:Array Obj} {d1:Nat} {xs:Q α} {x:α} {j:Nat} {ec:Q LA}
  (hr:Rows T (fO (w.alloc (C cur e)) os d) (cur.toList.take (j*T.size)) (xs.take j) S') (hN:S'.Nodup) (hL:∀ b∈S',w.heap.size+1<=b)
  (hsz:cur.size=n*T.size) (hj:j<n) (hx:xs[j]?=H x)
  (hF:gM T (fO (w.alloc (C cur e)) os d) (fO (w.alloc (C cur e)) os1 d1) ec x) (hg:fF (fO (w.alloc (C cur e)) os d) (fO (w.alloc (C cur e)) os1 d1)) :
  ∃ S'',Rows T (fO (w.alloc (C (oZ cur (j*T.size) 0 ec) e)) os1 d1) ((oZ cur (j*T.size) 0 ec).toList.take ((j+1)*T.size)) (xs.take (j+1)) S''/\S''.Nodup/\(∀ b∈S'',w.heap.size+1<=b)/\(oZ cur (j*T.size) 0 ec).size=n*T.size:=by
 obtain⟨S,hO,a5,a2⟩:=hF;have a0:ec.length=T.size:=T.iZ hO;have a6:(j+1)*T.size<=n*T.size:=Nat.mul_le_mul_right _ hj;have a1:(j+1)*T.size=j*T.size+T.size:=by rw[OA,N0]
 have a4:∀ k,w.heap.size+1<=k->(fO (w.alloc (C (oZ cur (j*T.size) 0 ec) e)) os1 d1).heap[k]?=(fO (w.alloc (C cur e)) os1 d1).heap[k]?:=by
  intro k hk;have h1:∀ o:Obj,(w.alloc o).heap.size=w.heap.size+1:=fun o=>Mo w o;simp only[fO];rw[NG (by rw[h1];exact hk),NG (by rw[h1];exact hk),h1,h1]
 have hU:=Rows.lt hr
 have r1:Rows T (fO (w.alloc (C (oZ cur (j*T.size) 0 ec) e)) os1 d1) (cur.toList.take (j*T.size)) (xs.take j) S':=
  Rows.fU hr (fun k hk=>(a4 k (hL k hk)).trans (hg.block (hU k hk)))
 have a3:∀ b∈S,w.heap.size+1<=b:=fun b hb=>by have:=a2 b hb;rw[yW,Mo] at this;omega
 have r2:=Rows.snoc r1 (T.hJ hO (fun k hk=>a4 k (a3 k hk)));refine⟨S'++S,?_,Ms.2 ⟨hN,a5,fun a ha b hb he=>?_⟩,fun b hb=>?_,?_⟩
 ·rw[xp,a1,<-a0,IW _ _ _ (by rw[a0];have:cur.toList.length=cur.size:=Mx;omega),a0,lJ hx]
  exact r2
 ·have h1:=hU a ha
  have h2:=a2 b hb;omega
 ·rcases LG.1 hb with h | h
  ·exact hL b h
  ·exact a3 b h
 ·rw[yO];exact hsz
theorem Dz {α:Type} {T:Ty α} {xs:Q α} {p:Nat}
  (hr:Rows T (fO (w.alloc (C cur e)) os d) (cur.toList.take p) (xs.take xs.length) S') (hN:S'.Nodup) (hL:∀ b∈S',w.heap.size+1<=b) (hsz:cur.size=xs.length*T.size) (hp:xs.length*T.size<=p) (hm:xs.length<=9223372036854775807) :
  wR T e xs w (.returned (J (H ⟨w.heap.size,0,V⟩) xs.length xs.length)) (fO (w.alloc (C cur e)) os d):=by
 rw[MJ,MA (by rw[Mx,hsz];exact hp)] at hr;refine⟨_,_,rfl,⟨w.heap.size::S',qq (e:=e) ?_ hr hm,NT.2 ⟨fun h=>by have:=hL _ h;omega,hN⟩,fun b hb=>?_⟩,((fF.refl _).alloc _).more _ _⟩
 ·rw[tC _ _ _ (by simp),World.alloc]
  simp
 ·rcases LU.1 hb with h | h
  ·omega
  ·have:=hL b h;omega
def setRow (w:N)(g p:Nat):Nat->Q LA->N
 | _,[]=>w
 | j,v::vs=>setRow (w.setCell ⟨g,p+j,V⟩ v) g p (j+1) vs
theorem Db (vs:Q LA):∀(w:N)(g p j:Nat)(cur:Array LA)(e:TypeId),w.heap[g]?=H (C cur e (0,0))->(setRow w g p j vs).heap[g]?=H (C (oZ cur p j vs) e (0,0)):=by
 induction vs with
 | nil=>intro w g p j cur e h;exact h
 | cons v vs ih=>intro w g p j cur e h;exact ih _ _ _ _ _ _ (pj h _ _)
theorem BZ (vs:Q LA){S:Q Nat}{g:Nat}(hg:g∈S):∀(w0 w:N)(p j:Nat),fJ S w0 w->fJ S w0 (setRow w g p j vs):=by
 induction vs with
 | nil=>intro w0 w p j h;exact h
 | cons v vs ih=>intro w0 w p j h;exact ih _ _ _ _ (h.setCell (p:=⟨g,p+j,V⟩) hg v)
theorem Bs (vs:Q LA):∀(w:N)(g p j k:Nat),k≠g->(setRow w g p j vs).heap[k]?=w.heap[k]?:=by
 induction vs with
 | nil=>intro w g p j k _;rfl
 | cons v vs ih=>intro w g p j k hk;exact(ih _ _ _ _ _ hk).trans (OF w ⟨g,p+j,V⟩ v k hk)
theorem rB {g:Prop} (f:g:=by
  rw[xp,DN _ _ _ _ (by rw[hec'];have:cur.toList.length=cur.size:=Mx;omega)]
  have hM:xs.length*T.size=a.length+ec.length+b.length:=by rw[<-hlen,hl2]
  have e1:cur.toList.take (k*T.size+0)=a:=by
   have h:=MY (List.take (k*T.size)) htake
   rw[List.take_take,N7 (by omega)] at h
   rw[Nat.add_zero,h,N1 (N4 hl.symm),MA (N4 hl)]
  have e2:(cur.toList.drop (k*T.size+0+ec'.length)).take (xs.length*T.size-(k*T.size+T.size))=b:=by
   have h:=MY (List.drop (k*T.size+T.size)) htake
   have hae:(a++ec).length=k*T.size+T.size:=by rw[Lj,hl,hec]
   rw[List.drop_take,<-LZ,List.drop_append_of_le_length (N4 hae.symm),List.drop_of_length_le (N4 hae),Mw] at h
   rw[hec',Nat.add_zero]
   exact h
  have hae':(a++ec').length=k*T.size+T.size:=by rw[Lj,hl,hec']
  rw[e1,<-LZ,List.take_append,MA (by rw[hae'];omega),hae',e2,LZ]):g:=f
theorem OZ {α:Type} {T:Ty α} {A:K Mh} {c:Nat} {xs:Q α} {S:Q Nat} (h:(T.sl e).O w [J A n c] xs S)(hS:S.Nodup){k:Nat}{x:α}(hx:xs[k]?=H x) :
  ∃ g ec Sc,A=H ⟨g,0,V⟩/\g∈S/\g<w.heap.size/\g∉Sc/\(∀ j∈Sc,j∈S)/\T.O w ec x Sc/\(∀ j,LD w ⟨g,j,V⟩=U)/\(∀ j u,ec[j]?=H u->Lg w ⟨g,k*T.size+j,V⟩=H u)/\
   (∀ ec' y,T.O w ec' y Sc->(T.sl e).O (setRow w g (k*T.size) 0 ec') [J A n c] (xs.set k y) S/\fJ S w (setRow w g (k*T.size) 0 ec')):=by
 obtain⟨A',c',ae,S',h1,h2,h3,rfl⟩:=h;injection h1 with h1 _
 injection h1 with hA hn hc
 subst hA hn hc;have hk:k<xs.length:=(Lh.1 hx).1;obtain⟨a,ec,b,Sa,Sc,Sb,rfl,rfl,hl,ha,hO,hb⟩:=Rows.part h3 hx;obtain⟨hlen,a3⟩:=h2;rcases a3 with⟨_,hn⟩ | ⟨g,ad,cur,hv,a1,hg,ab,a5,a6,htake⟩
 ·omega
 ·injection hv with hA _ hc
  subst hA hc;have aa:g<w.heap.size:=(blt hg)
  simp only[jQ,List.singleton_append,NT,Ms,LG,not_or] at hS;obtain⟨⟨a8,a4,a9⟩,ah,⟨ac,ai,a7⟩,af⟩:=hS;have hec:ec.length=T.size:=T.iZ hO
  have ag:(a++(ec++b)).length<=cur.size:=by
   rw[<-htake,MG];have:cur.toList.length=cur.size:=Mx;omega
  have a2:∀(j:Nat) (u:LA),(a++(ec++b))[j]?=H u->cur[j]?=H u:=by
   intro j u hu;rw[<-htake,Nc] at hu;split at hu
   ·simpa using hu
   ·cases hu
  refine⟨g,ec,Sc,rfl,by simp[jQ],aa,a4,fun j hj=>by simp[hj],hO,fun j=>by simp[LD,hg],fun j u hu=>?_,fun ec' y hy=>?_⟩
  ·rw[MD w g _ cur e (0,0) hg]
   apply a2;exact mT
  ·have hec':ec'.length=T.size:=T.iZ hy
   have a0:∀ i,i≠g->(setRow w g (k*T.size) 0 ec').heap[i]?=w.heap[i]?:=fun i hi=>Bs _ _ _ _ _ _ hi;have hl2:(a++(ec++b)).length=a.length+ec.length+b.length:=by simp only[Lj];omega
   refine⟨⟨H ⟨g,0,V⟩,c,a++(ec'++b),_,by rw[Ma],⟨?_,.inr ⟨g,c,oZ cur (k*T.size) 0 ec',by rw[Ma],a1,Db _ _ _ _ _ _ _ hg,by simpa using ab,a5,by rw[yO];exact a6,?_⟩⟩,Rows.join hx (Rows.fU ha ?_) (T.hJ hy ?_) (Rows.fU hb ?_),rfl⟩,?_⟩
   ·rw[Ma,<-hlen]
    simp[hec,hec']
   ·rw[Ma]
    exact rB
   ·exact fun i hi=>a0 i (fun e=>a8 (e ▸ hi))
   ·exact fun i hi=>a0 i (fun e=>a4 (e ▸ hi))
   ·exact fun i hi=>a0 i (fun e=>a9 (e ▸ hi))
   ·exact BZ _ (by simp[jQ]) _ _ _ _ (fJ.refl _ _)
def gW (x a b:Int):Bool:=decide (a<=x) && decide (x<=b)
theorem zX:gW x a b=M↔a<=x/\x<=b:=by simp[gW]
theorem Kc (h1:a<=x)(h2:x<=b):gW x a b=M:=zX.2 ⟨h1,h2⟩
theorem zy {a b:Bool} (h:a=b):NB (X a)=.returned (X b):=by rw[h]
theorem kk (h:a=b):NB (F I a)=.returned (F I b):=by rw[h]
theorem D7 (x a b:Int)(h:a<=x):decide (x<=b)=gW x a b:=by simp[gW,h]
theorem D8 (x a b:Int)(h:x<a):U=gW x a b:=by simp[gW];omega
theorem jr (x a b:Int)(w:N):LR prog 43 #[F I x,F I a,F I b] w fun e w'=>e=.returned (X (gW x a b))/\w=w':=by
 go_enter func43,ntmps43;go_wp2
 ·go_ret
  exact⟨zy (D7 x a b ‹_›),rfl⟩
 ·go_ret
  exact⟨zy (D8 x a b ‹_›),rfl⟩
theorem lj (x a b:Int)(w:N):LR prog 33 #[F I x,F I a,F I b] w fun e w'=>e=.returned (X (gW x a b))/\w=w':=by
 go_enter func33,ntmps33;go_wp2
 ·go_ret
  exact⟨zy (D7 x a b ‹_›),rfl⟩
 ·go_ret
  exact⟨zy (D8 x a b ‹_›),rfl⟩
theorem CZ {f:FuncId} {args:Array LA}
  (h:LR P f args (w.drewN n) fun e w'=>e=.returned v/\w.drewN n=w'):LR P f args (w.drewN n) fun e w''=>e=.returned v/\∃ m,w''=w.drewN m:=
 h.mono fun _ _ ⟨he,hm⟩=>⟨he,n,hm.symm⟩
theorem JE {v:Bool} (h:gW x a b=v)(w:N)(n:Nat):LR prog 43 #[F I x,F I a,F I b] (w.drewN n) fun e w''=>e=.returned (X v)/\∃ m,w''=w.drewN m:=by
 subst h;exact CZ (jr _ _ _ _)
section
variable {P:Program} {ops:Array Oper} {Ld:Exit->Act->N->Prop} {md:Nz} {S:N->Prop} {m:Nat}
def fX (P:Program)(md:Nz)(ops:Array Oper)(Ld:Exit->Act->N->Prop)(S:N->Prop)(m:Nat):Nat->Array Bool->Act->N->Prop
 | 0,listed,a,w=>MK md ops listed = []/\Ld .normal a w
 | f+1,listed,a,w=>(MK md ops listed = []->Ld .normal a w)/\
   ∀ i∈MK md ops listed,wpOp P ops Ld i (fun a' w'=>(i≠m->S w')/\fX P md ops Ld S m f (listed.setIfInBounds i M) a' w') a w
theorem fX.any:∀{f:Nat}{listed:Array Bool}{a:Act}{w:N},fX P md ops Ld S m f listed a w->wpAny P md ops Ld f listed a w
 | 0,_,_,_,h=>h
 | _+1,_,_,_,h=>⟨h.1,fun i hi=>wpOp_mono (fun _ _ h'=>h'.2.any) (h.2 i hi)⟩
def oW (md:Nz)(ops:Array Oper)(m:Nat):Nat->Q Nat->Bool
 | i,[]=>i == m
 | i,c::cs=>(match ops[c]? with
   | some o=>o.after.any fun e=>Region.binds md e && e.on == i
   | none=>U) && oW md ops m c cs
theorem Hv:∀(cs:Q Nat)(i:Nat),oW md ops m i cs=M->listed.getD i M=U->(∀ c∈cs,listed.getD c M=U)->(∀ c∈cs,c∉MK md ops listed)/\(cs≠[]->m∈cs):=by
 intro cs;induction cs with
 | nil=>intro i _ _ _;simp
 | cons c cs ih=>
  intro i hl hi hc;simp only[oW,LC] at hl;obtain⟨a2,a1⟩:=hl;have a3:=hc c (by simp);obtain⟨h1,h2⟩:=ih c a1 a3 (fun d hd=>hc d (by simp[hd]))
  have a4:c∉MK md ops listed:=by
   intro hr;obtain⟨_,o,ho,a0⟩:=mem_ready.1 hr;rw[ho] at a2;obtain⟨e,he,hb⟩:=Array.any_eq_true'.1 a2;simp only[LC,LM] at hb;have h3:=a0 e he hb.1;rw[hb.2] at h3;rcases Ny i listed.size with h' | h'
   ·simp[h'] at hi h3
    rw[hi] at h3;cases h3
   ·simp[NF h'] at hi
  refine⟨fun d hd=>?_,fun _=>?_⟩
  ·rcases LU.1 hd with rfl | hd
   ·exact a4
   ·exact h1 d hd
  ·cases cs with
   | nil=>
    simp only[oW,LM] at a1;subst a1;simp
   | cons d ds=>exact ML _ (h2 (by simp))
theorem fX.first (hi:ops[i]?=H oi)(hsel:ND ops=M)(hlk:oW md ops m i cs=M)(hne:cs≠[])
  (hQ:∀ c a w,Ld (.panic c) (a.put oi.dst v) w->Ld (.panic c) a w) :
  ∀(f:Nat) (listed:Array Bool) (a:Act) (w:N),(∀ j oj,ops[j]?=H oj->j≠i->listed.getD j M=U->(∀ e∈oj.after,Region.binds md e=M->e.on≠i)->oi.apart ops oj=M)->
   (∀ c∈cs,listed.getD c M=U)->i∈MK md ops listed->YieldsIf P ops S oi v a->S w->
   fX P md ops Ld S m f (listed.setIfInBounds i M) (a.put oi.dst v) w->fX P md ops Ld S m (f+1) listed a w:=by
 intro f;induction f with
 | zero=>
  intro listed a w _ _ hr hy hS K6;refine⟨fun h=>absurd hr (by rw[h];simp),fun j hj=>?_⟩;by_cases hji:j=i
  ·subst hji
   exact hy.wpOp hi hS ⟨fun _=>hS,K6⟩
  ·exact absurd (ready_mono hj hji) (by rw[K6.1];simp)
 | succ f ih=>
  intro listed a w a0 a5 hr hy hS K6;have a1:=(mem_ready.1 hr).1;obtain⟨a4,a7⟩:=Hv cs i hlk a1 a5;refine⟨fun h=>absurd hr (by rw[h];simp),fun j hj=>?_⟩;by_cases hji:j=i
  ·subst hji
   exact hy.wpOp hi hS ⟨fun _=>hS,K6⟩
  ·have aa:j≠m:=fun h=>a4 j (h ▸ a7 hne) hj
   have a9:j∉cs:=fun h=>a4 j h hj;obtain⟨a6,oj,a3,a2⟩:=mem_ready.1 hj
   have ab:∀ e∈oj.after,Region.binds md e=M->e.on≠i:=by
    intro e he hb a8;have h1:=a2 e he hb;rw[a8] at h1;rcases Ny i listed.size with h' | h'
    ·simp[h'] at a1 h1
     rw[a1] at h1;cases h1
    ·simp[NF h'] at a1
   have h2:=wpOp_putIf a3 (a0 j oj a3 hji a6 ab) (fun c b=>Region.noSelect_spec hsel i oi c b hi) (fun c b=>Region.noSelect_spec hsel j oj c b a3) hQ hy (K6.2 j (ready_mono hj hji));refine wpOp_mono (fun a' w' h3=>?_) h2;obtain⟨h4,h5,h6⟩:=h3;refine⟨h5,ih (listed.setIfInBounds j M) a' w' (fun k ok hk hki hun hnk=>?_) (fun c hc=>?_) (ready_mono hr (Ne.symm hji)) h4 (h5 aa) (by rw[Array.setIfInBounds_comm _ _ hji];exact h6)⟩
   ·by_cases hjk:j=k
    ·subst hjk
     exact a0 j ok hk hki a6 hnk
    ·rw[OS M hjk] at hun
     exact a0 k ok hk hki hun hnk
   ·rw[OS M (show j≠c from fun h=>a9 (by rw[h];exact hc))]
    exact a5 c hc
def qA (listed:Array Bool)(cs:Q Nat):Bool:=cs.all fun c=>!listed.getD c M
theorem fX.take {a:Act} (hi:ops[i]?=H oi)(hsel:ND ops=M)(hf:Oq md ops listed i=M)(hr:(MK md ops listed).contains i=M)
  (hlk:oW md ops m i cs=M) (hne:cs.isEmpty=U) (hun:qA listed cs=M) (hQ:∀ c a w,Ld (.panic c) (a.put oi.dst v) w->Ld (.panic c) a w) (hS:S w)
  (hw:MI oi (NA ops a.tmps)=M) (hy:∀ w,S w->(execOp a.eval oi).run P w=.ok (.value v) w)
  (h:fX P md ops Ld S m f (listed.setIfInBounds i M) (a.put oi.dst v) w):fX P md ops Ld S m (f+1) listed a w:=
 fX.first hi hsel hlk (by cases cs <;> simp at hne |-) hQ f listed a w (Region.free_spec hi hf) (fun c hc=>by
  simp only[qA,NL,NW] at hun
  exact hun c hc) (by simpa using hr) (.inl ⟨hw,hy⟩) hS h
theorem fX.one {a:Act} (hr:MK md ops listed = [i])(ho:ops[i]?=H o)
  (h:∀ Le:Act->N->Prop,Hid (∀ a w,S w->(S w->fX P md ops Ld S m f (listed.setIfInBounds i M) a w)->Le a w)->if MI o (NA ops a.tmps)=M then Oper.wp P o a w Le Ld else Le (a.put o.dst undef) w):fX P md ops Ld S m (f+1) listed a w:=
 ⟨fun h0=>absurd (hr.symm.trans h0) (by simp),fun j hj=>by
  obtain rfl:j=i:=by simpa[hr] using hj
  exact wpOp_step ho (fun Le hK=>h Le (fE fun a w hS hT=>hK a w ⟨fun _=>hS,hT hS⟩))⟩
theorem fX.last {a:Act} (hr:MK md ops listed = [m])(ho:ops[m]?=H o)(hd:MK md ops (listed.setIfInBounds m M) = [])
  (h:∀ Le:Act->N->Prop,Hid (∀ a w,Ld .normal a w->Le a w)->if MI o (NA ops a.tmps)=M then Oper.wp P o a w Le Ld else Le (a.put o.dst undef) w):fX P md ops Ld S m (f+1) listed a w:=
 ⟨fun h0=>absurd (hr.symm.trans h0) (by simp),fun j hj=>by
  obtain rfl:j=m:=by simpa[hr] using hj
  refine wpOp_step ho (fun Le hK=>h Le (fE fun a w hq=>hK a w ⟨fun h=>absurd rfl h,?_⟩));cases f with
  | zero=>exact⟨hd,hq⟩
  | succ f=>exact⟨fun _=>hq,by rw[hd];simp⟩⟩
theorem kC {id:Nat} {a:Act} (S:N->Prop)(m:Nat)(hm:P.follows .mixedOrders=M)(hS:S w.drew)
  (h:S w.drew->fX P .any ops Ld S m ops.size (Array.replicate ops.size U) a w.drew):(Code.region id ops M).wp P Ld a w:=
 wp_region_any hm (h hS).any
end
theorem fX.tk {Ld:Exit->Act->N->Prop} {md:Nz} {S:N->Prop} (i:Nat)(cs:Q Nat){oi:Oper}{v:LA}{f:Nat}{listed:Array Bool}{a a2:Act}{w:N}(hS:S w)(h:fX P md ops Ld S m f (listed.setIfInBounds i M) a2 w)
  (hi:ops[i]?=H oi:=by exact rfl) (hsel:ND ops=M:=by kernel_rfl) (hf:Oq md ops listed i=M:=by kernel_rfl) (hr:(MK md ops listed).contains i=M:=by kernel_rfl) (hlk:oW md ops m i cs=M:=by kernel_rfl) (hne:cs.isEmpty=U:=by exact rfl) (hun:qA listed cs=M:=by kernel_rfl)
  (hQ:∀ c a w,Ld (.panic c) (a.put oi.dst v) w->Ld (.panic c) a w:=by exact fun _ _ _ h=>h) (hw:MI oi (NA ops a.tmps)=M:=by kernel_rfl) (hy:∀ w,S w->(execOp a.eval oi).run P w=.ok (.value v) w:=by intro w hSw;(try dsimp only at hSw);go_simp;(try with_reducible rfl)) (ha:a.put oi.dst v=a2:=by(try simp only[lay]) <;> exact rfl):fX P md ops Ld S m (f+1) listed a w:=
 fX.take hi hsel hf hr hlk hne hun hQ hS hw hy (ha ▸ h)
theorem fX.tq {Ld:Exit->Act->N->Prop} {md:Nz} {S:N->Prop} (i:Nat)(cs:Q Nat){oi:Oper}{v:LA}{f:Nat}{listed:Array Bool}{a a2:Act}{w:N}(hS:S w)(h:fX P md ops Ld S m f (listed.setIfInBounds i M) a2 w)
  (hi:ops[i]?=H oi:=by exact rfl) (hsel:ND ops=M:=by kernel_rfl) (hf:Oq md ops listed i=M:=by kernel_rfl) (hr:(MK md ops listed).contains i=M:=by kernel_rfl) (hlk:oW md ops m i cs=M:=by kernel_rfl) (hne:cs.isEmpty=U:=by exact rfl) (hun:qA listed cs=M:=by kernel_rfl)
  (hQ:∀ c a w,Ld (.panic c) (a.put oi.dst v) w->Ld (.panic c) a w:=by exact fun _ _ _ h=>h) (hw:MI oi (NA ops a.tmps)=M:=by first | rfl | kernel_rfl) (hy:∀ w,S w->(execOp a.eval oi).run P w=.ok (.value v) w:=by intro w hSw;(try dsimp only at hSw);go_simp;(try with_reducible rfl)) (ha:a.put oi.dst v=a2:=by(try simp only[lay]) <;> exact rfl):fX P md ops Ld S m (f+1) listed a w:=
 fX.take hi hsel hf hr hlk hne hun hQ hS hw hy (ha ▸ h)
end Go.Proofs.YtiihkapmggfjkaaGreat
