/-
  PART.
-/
import Derived.Test.YtiihkapmggfjkaaGreatM16LawMakeDebug
import Derived.Test.YtiihkapmggfjkaaGreatM18LawMakeDebug
set_option linter.unusedVariables false
set_option linter.unusedSimpArgs false
set_option maxRecDepth 100000
set_option maxHeartbeats 8000000
namespace Go.Proofs.YtiihkapmggfjkaaGreat
open Value renaming slice->J,int->F,bool->X
open IntKind renaming i64->I,wrap->Ll
open Option renaming none->V,some->H
open Obj renaming cells->C
open Bool renaming false->U,true->M,noConfusion->NN
open Go renaming World->N,results->Ly,Value->LA,Calls->LR,Addr->Mh,yielded->NA
open World renaming cell?->Lg,frozen?->LD
open _root_.Int renaming toNat_natCast->Lw
open List renaming length_cons->LJ,getElem?_cons_zero->Mf,length_singleton->Mj,nil_append->Mw
open RowKit renaming intOf->Ml
open _root_.Array renaming length_toList->Mx
open Region renaming wanted->MI,ready->MK,noSelect->ND,free->Oq
open Tryz
open Go.RowKit
variable {A:K Mh}{B c e ef i k n:Nat}{locals:Q D}{p:Q fG}{st:Q Nat}{w:N}{x:fG}{xs:Q fQ}
theorem JQ {α:Type} {T:Ty α} {e:TypeId} {xs:Q α} {S:Q Nat} (h:Has (T.sl e) w [J A n c] xs S){k:Nat}{x:α}(hx:xs[k]?=H x) :
  ∃ g ec Sc,A=H ⟨g,0,V⟩/\g∈S/\g<w.heap.size/\g∉Sc/\(∀ j∈Sc,j∈S)/\Has T w ec x Sc/\(∀ j,LD w ⟨g,j,V⟩=U)/\(∀ j u,ec[j]?=H u->Lg w ⟨g,k*T.size+j,V⟩=H u)/\
   (∀ ec' y Sy,Has T w ec' y Sy->(∀ b∈Sy,b∉S∨b∈Sc)->fJ [g] w (setRow w g (k*T.size) 0 ec')/\∃ S',Has (T.sl e) (setRow w g (k*T.size) 0 ec') [J A n c] (xs.set k y) S'/\∀ b∈S',b∈S∨b∈Sy):=by
 obtain⟨h,hS⟩:=h;obtain⟨A',c',al,S',h1,h2,h3,rfl⟩:=h;injection h1 with h1 _
 injection h1 with hA hn hc
 subst hA hn hc;have hk:k<xs.length:=(Lh.1 hx).1;obtain⟨a,ec,b,Sa,Sc,Sb,rfl,rfl,hl,ha,hO,hb⟩:=Rows.part h3 hx;obtain⟨hlen,a3⟩:=h2;rcases a3 with⟨_,hn⟩ | ⟨g,ak,cur,hv,a1,hg,aj,ad,ae,htake⟩
 ·omega
 ·injection hv with hA _ hc
  subst hA hc;have af:g<w.heap.size:=(blt hg)
  simp only[jQ,List.singleton_append,NT,Ms,LG,not_or] at hS;obtain⟨⟨aa,ac,ab⟩,ah,⟨a7,ai,a6⟩,a8⟩:=hS;have hec:ec.length=T.size:=T.iZ hO
  have am:(a++(ec++b)).length<=cur.size:=by
   rw[<-htake,MG];have:cur.toList.length=cur.size:=Mx;omega
  have a2:∀(j:Nat) (u:LA),(a++(ec++b))[j]?=H u->cur[j]?=H u:=by
   intro j u hu;rw[<-htake,Nc] at hu;split at hu
   ·simpa using hu
   ·cases hu
  refine⟨g,ec,Sc,rfl,by simp[jQ],af,ac,fun j hj=>by simp[hj],⟨hO,a7⟩,fun j=>by simp[LD,hg],fun j u hu=>?_,fun ec' y Sy hy hSy=>?_⟩
  ·rw[MD w g _ cur e (0,0) hg]
   apply a2;exact mT
  ·obtain⟨hy,ag⟩:=hy
   have a9:g∉Sy:=fun hm=>by
    rcases hSy g hm with h | h
    ·exact h (by simp[jQ])
    ·exact ac h
   have a4:∀ b∈Sy,b∉Sa:=fun i hi hm=>by
    rcases hSy i hi with h | h
    ·exact h (by simp[hm])
    ·exact a8 i hm i (.inl h) rfl
   have a5:∀ b∈Sy,b∉Sb:=fun i hi hm=>by
    rcases hSy i hi with h | h
    ·exact h (by simp[hm])
    ·exact a6 i h i hm rfl
   have hec':ec'.length=T.size:=T.iZ hy;have a0:∀ i,i≠g->(setRow w g (k*T.size) 0 ec').heap[i]?=w.heap[i]?:=fun i hi=>Bs _ _ _ _ _ _ hi;have hl2:(a++(ec++b)).length=a.length+ec.length+b.length:=by simp only[Lj];omega
   refine⟨BZ _ (by simp) _ _ _ _ (fJ.refl _ _),jQ (H ⟨g,0,V⟩)++(Sa++(Sy++Sb)),⟨⟨H ⟨g,0,V⟩,c,a++(ec'++b),_,by rw[Ma],⟨?_,.inr ⟨g,c,oZ cur (k*T.size) 0 ec',by rw[Ma],a1,Db _ _ _ _ _ _ _ hg,by simpa using aj,ad,by rw[yO];exact ae,?_⟩⟩,Rows.join hx (Rows.fU ha ?_) (T.hJ hy ?_) (Rows.fU hb ?_),rfl⟩,?_⟩,?_⟩
   ·rw[Ma,<-hlen]
    simp[hec,hec']
   ·rw[Ma]
    exact rB
   ·exact fun i hi=>a0 i (fun e=>aa (e ▸ hi))
   ·exact fun i hi=>a0 i (fun e=>a9 (e ▸ hi))
   ·exact fun i hi=>a0 i (fun e=>ab (e ▸ hi))
   ·simp only[jQ,List.singleton_append,NT,Ms,LG,not_or]
    refine⟨⟨aa,a9,ab⟩,ah,⟨ag,ai,fun i hi j hj he=>a5 i hi (he ▸ hj)⟩,fun i hi j hj he=>?_⟩;rcases hj with hj | hj
    ·exact a4 j hj (he ▸ hi)
    ·exact a8 i hi j (.inr hj) he
   ·intro i hi
    simp only[LG] at hi |-;rcases hi with hi | hi | hi | hi
    ·exact .inl (.inl hi)
    ·exact .inl (.inr (.inl hi))
    ·exact .inr hi
    ·exact .inl (.inr (.inr (.inr hi)))
theorem l2 {e:TypeId} (h:(oH.sl e).R w B [J A n c] xs){k:Nat}(hk:k<xs.length) :
  ∃ g off x A0 c0,A=H ⟨g,off,V⟩/\g<B/\xs[k]?=H x/\Lg w ⟨g,off+k*8,V⟩=H (F I x.Offset)/\Lg w ⟨g,off+k*8+1,V⟩=H (F I x.Item.Op.Code)/\Lg w ⟨g,off+k*8+2,V⟩=H (F I x.Item.Op.Arg)/\Lg w ⟨g,off+k*8+3,V⟩=H (F I x.Item.fN)/\Lg w ⟨g,off+k*8+4,V⟩=H (X x.Item.Start)/\Lg w ⟨g,off+k*8+5,V⟩=H (J A0 x.Item.fH.length c0)/\Lg w ⟨g,off+k*8+6,V⟩=H (F I x.Item.fK)/\Lg w ⟨g,off+k*8+7,V⟩=H (X x.Item.fI)/\fV x.Offset/\fV x.Item.Op.Code/\fV x.Item.Op.Arg/\fV x.Item.fN/\(zF.sl 3).R w B [J A0 x.Item.fH.length c0] x.Item.fH/\fV x.Item.fK:=by
 obtain⟨g,off,x,ec,h1,hB,h2,h3,h4⟩:=om h hk;obtain⟨A0,c0,rfl,hf⟩:=Jp h3;exact⟨g,off,x,A0,c0,h1,hB,h2,h4 0 _ rfl,h4 1 _ rfl,h4 2 _ rfl,h4 3 _ rfl,h4 4 _ rfl,h4 5 _ rfl,h4 6 _ rfl,h4 7 _ rfl,hf⟩
def mI (p:Q fG)(k:Nat):Q Nat->Nat->Prop
 | [],i=>zu p i=zu p (k+1)
 | e::r,i=>∃ b,k<b/\b<i/\i<=e/\gg p b e/\zu p i=zu p b+1/\mI p k r b
theorem vd {p:Q fG}{k:Nat}:∀(st:Q Nat)(i:Nat),mI p k st i->zu p i=zu p (k+1)+st.length
 | [],i,h=>by
  have h:zu p i=zu p (k+1):=h;simpa using h
 | e::r,i,⟨b,_,_,_,_,h1,h2⟩=>by
  have:=vd r b h2;simp only[LJ];omega
theorem sW {g:Prop} (f:g:=by
  subst hb
  obtain⟨y,hy,h7⟩:=g4.last
  rw[hx] at hy
  injection hy with hy
  subst hy
  rw[h7] at ho
  cases ho):g:=f
theorem Ev {p:Q fG}{k:Nat}:∀(st:Q Nat)(i:Nat),mI p k st i->∀ e∈st,i<=e
 | [],_,_,e,h=>by simp at h
 | e::r,i,⟨b,h1,h2,h3,h4,h5,h6⟩,e',he=>by
  rcases LU.1 he with rfl | he
  ·exact h3
  ·match r,h6,he with
   | e2::r2,⟨b2,g1,g2,g3,g4,g5,g6⟩,he=>
    obtain⟨x,hx,ho⟩:=h4.op
    have a1:b≠e2:=fun hb=>by
     exact sW
    obtain⟨e',w1,w2,w3⟩:=g4.inner g2 (by omega) hx ho;have:=w1.uniq h4;subst this;rcases LU.1 he with rfl | he
    ·omega
    ·have:=Ev (e2::r2) b ⟨b2,g1,g2,g3,g4,g5,g6⟩ _ (ML _ he)
     have a0:∀ e∈r2,e2<=e:=stk_up r2 e2 b2 g4 g6;have:=a0 _ he;omega
where
 stk_up {p:Q fG} {k:Nat}:∀(r:Q Nat) (e b:Nat),gg p b e->mI p k r b->∀ e'∈r,e<=e'
 | [],_,_,_,_,_,h=>by simp at h
 | e2::r2,e,b,hb,⟨b2,g1,g2,g3,g4,g5,g6⟩,e',he=>by
  obtain⟨x,hx,ho⟩:=hb.op
  have a1:b≠e2:=fun hb=>by
   exact sW
  obtain⟨e3,w1,w2,w3⟩:=g4.inner g2 (by omega) hx ho;have:=w1.uniq hb;subst this;rcases LU.1 he with rfl | he
  ·omega
  ·have:=stk_up r2 e2 b2 g4 g6 _ he
   omega
theorem Jl (h:mI p k st i)(hk:k<i)(hx:p[i]?=H x)(ho:kn x.Kind=M)(he:gg p i e):mI p k (e::st) (i+1):=by
 have h1:=mc hx;have h2:jf x=1:=by unfold jf;rw[Lu ho]
 have h3:=he.lt;exact⟨i,hk,by omega,by omega,he,by omega,h⟩
theorem Jm (h:mI p k st i)(hx:p[i]?=H x)(ho:kn x.Kind=U)(h7:x.Kind≠7):mI p k st (i+1):=by
 have h1:=mc hx;have h2:jf x=0:=by unfold jf;rw[Lt (by rw[ho];decide),Lt h7]
 match st,h with
 | [],h=>
  have h:zu p i=zu p (k+1):=h;show zu p (i+1)=zu p (k+1);omega
 | e::r,⟨b,g1,g2,g3,g4,g5,g6⟩=>
  refine⟨b,g1,by omega,?_,g4,by omega,g6⟩;rcases Ny i e with hl | hl
  ·omega
  ·have:i=e:=by omega
   subst this;obtain⟨y,hy,a0⟩:=g4.last;rw[hx] at hy;injection hy with hy
   subst hy;exact absurd a0 h7
theorem Ku (h:mI p k st i)(hf:gg p k ef)(hk:k<i)(hi:i<ef)(hx:p[i]?=H x)(h7:x.Kind=7):∃ r,st=i::r/\mI p k r (i+1):=by
 have h1:=mc hx;have h2:jf x = -1:=by unfold jf;rw[Lt (by rw[h7];decide),Lu h7]
 match st,h with
 | [],h=>
  have h:zu p i=zu p (k+1):=h;have a3:=hf.up (i+1) (by omega) (by omega);obtain⟨y,hy,ho⟩:=hf.op;have h3:=mc hy;have h4:jf y=1:=by unfold jf;rw[Lu ho]
  omega
 | e::r,⟨b,g1,g2,g3,g4,g5,g6⟩=>
  have a0:i=e:=by
   rcases Ny i e with hl | hl
   ·have:=g4.up (i+1) (by omega) (by omega)
    omega
   ·omega
  subst a0;refine⟨r,rfl,?_⟩
  match r,g6 with
  | [],g6=>
   have g6:zu p b=zu p (k+1):=g6;show zu p (i+1)=zu p (k+1);omega
  | e2::r2,⟨b2,w1,w2,w3,w4,w5,w6⟩=>
   obtain⟨y,hy,ho⟩:=g4.op
   have a2:b≠e2:=fun hb=>by
    subst hb;obtain⟨z,hz,a1⟩:=w4.last;rw[hy] at hz;injection hz with hz
    subst hz;rw[a1] at ho;cases ho
   obtain⟨e3,q1,q2,q3⟩:=w4.inner w2 (by omega) hy ho;have:=q1.uniq g4;subst this;exact⟨b2,w1,by omega,by omega,w4,by omega,w6⟩
theorem Jj (h:mI p k st ef)(hf:gg p k ef):st = []:=by
 obtain⟨x,hx,h7⟩:=hf.last;have h1:=mc hx;have h2:jf x = -1:=by unfold jf;rw[Lt (by rw[h7];decide),Lu h7]
 have h3:=hf.eq;obtain⟨y,hy,ho⟩:=hf.op;have h4:=mc hy;have h5:jf y=1:=by unfold jf;rw[Lu ho]
 have h6:=vd st ef h;exact M3.1 (by omega)
def qi (p:Q fG)(locals:Q D)(k i:Nat)(x:fG):Bool:=
 (!decide (x.Kind=0)) && (decide (zu p (i+1)-zu p (k+1)<=4) && zB p locals x.Expr)
def oh (p:Q fG)(locals:Q D)(k:Nat):Q fG->Nat->Nat->Bool
 | _,0,_=>M
 | [],_+1,_=>M
 | x::r,n+1,i=>qi p locals k i x && oh p locals k r n (i+1)
def l3 (p:Q fG)(k e:Nat):Bool:=decide ((zq p k).length<=8) && oh p (zq p k) k (p.drop (k+1)) (e-(k+1)) (k+1)
theorem tT (h:p[i]?=H x)(hi:i<e):oh p locals k (p.drop i) (e-i) i=(qi p locals k i x && oh p locals k (p.drop (i+1)) (e-(i+1)) (i+1)):=by
 exact sM
def s9 (p:Q fG)(k:Int):Bool:=match p[k.toNat]? with
 | none=>U
 | some x=>decide (zQ p x.Name=k) && (decide (0<=zJ p k) && l3 p k.toNat (zJ p k).toNat)
def l6 (p:Q fG):Q Int->Int->Bool
 | [],n=>decide (n=p.length)
 | k::r,n=>decide (k=n) && (s9 p k && l6 p r (zJ p k+1))
def nC (p:Q fG):Q Int:=(List.range p.length).map fun(k:Nat)=>zx p (k:Int)
def nF (es:Q Int):Q fG->Nat->Bool
 | [],_=>M
 | x::r,i=>(if x.Kind=4 then es.any (fun y=>decide (y=(i:Int))) else M) && nF es r (i+1)
def qS (p:Q fG):Bool:=decide (p.length<=60) && (gW ((zk p).length:Int) 1 6 && (p.all ku && (nD p && (l6 p (zk p) 0 && nF (nC p) p 0))))
theorem xV {es:Q Int} (h:p[i]?=H x):nF es (p.drop i) i=((if x.Kind=4 then es.any (fun y=>decide (y=(i:Int))) else M) && nF es (p.drop (i+1)) (i+1)):=by
 obtain⟨h1,rfl⟩:=Lh.1 h;rw[LI h1];rfl
theorem xI {es:Q Int}:∀(l:Q fG)(k:Nat),nF es l k=M↔∀(i:Nat)(x:fG),l[i]?=H x->x.Kind=4->((k+i:Nat):Int)∈es
 | [],k=>by simp[nF]
 | y::r,k=>by
  simp only[nF,LC,xI r (k+1)];constructor
  ·rintro⟨h1,h2⟩ i x hx h4
   cases i with
   | zero=>
    simp only[Mf,Mg] at hx;subst hx;rw[Lu h4,Nv] at h1;obtain⟨z,hz,he⟩:=h1;simp only[LQ] at he;rw[Nat.add_zero,<-he];exact hz
   | succ i=>
    have:=h2 i x (by simpa using hx) h4;rwa [show k+(i+1)=k+1+i from by omega]
  ·intro h
   refine⟨?_,fun i x hx h4=>?_⟩
   ·by_cases h4:y.Kind=4
    ·rw[Lu h4,Nv]
     exact⟨_,h 0 y rfl h4,by simp⟩
    ·rw[Lt h4]
   ·have:=h (i+1) x (by simpa using hx) h4
    rwa [show k+(i+1)=k+1+i from by omega] at this
theorem GY {v:Int} (h:v∈nC p):∃ j:Nat,zx p j=v:=by
 unfold nC at h;obtain⟨j,_,h2⟩:=List.mem_map.1 h;exact⟨j,h2⟩
theorem Hh {j:Nat} (h:zx p j=(i:Int)):(i:Int)∈nC p:=by
 have hj:j<p.length:=by
  rcases nI p j with h1 | ⟨a,_,h2⟩
  ·omega
  ·obtain⟨e,h3,_⟩:=h2.iX
   have:=h3.len;have:=h3.lt;omega
 unfold nC;exact List.mem_map.2 ⟨j,List.mem_range.2 hj,h⟩
theorem Hb (hels:x.Kind=4->my p k i=M):lZ p locals k i x=qi p locals k i x:=by
 unfold lZ qi;by_cases h4:x.Kind=4
 ·rw[Lu h4,hels h4,M4]
 ·rw[Lt h4,M4]
theorem zm {p:Q fG}{locals:Q D}{k:Nat}:∀(n a:Nat),(∀(i:Nat)(x:fG),a<=i->i<a+n->p[i]?=H x->x.Kind=4->my p k i=M)->oU p locals k (p.drop a) n a=oh p locals k (p.drop a) n a
 | 0,a,_=>by cases p.drop a <;> rfl
 | n+1,a,h=>by
  by_cases ha:a<p.length
  ·have hx:p[a]?=H p[a]:=Lo ha
   have h1:=pR (p:=p) (locals:=locals) (k:=k) (e:=a+(n+1)) hx (by omega);have h2:=tT (p:=p) (locals:=locals) (k:=k) (e:=a+(n+1)) hx (by omega);rw[show a+(n+1)-a=n+1 from by omega,show a+(n+1)-(a+1)=n from by omega] at h1 h2;rw[h1,h2,Hb (fun h4=>h a _ (Lz _) (by omega) hx h4),zm n (a+1) (fun i x h1 h2=>h i x (by omega) (by omega))]
  ·rw[MU (by omega)]
   rfl
theorem Hc (h:lu p k e=M)(hlen:e<=p.length):l3 p k e=M:=by
 have hl:∀ i x,k<i->i<e->p[i]?=H x->x.Kind=4->my p k i=M:=fun i x h1 h2 hx h4=>(xx (uB h h1 h2 hx)).2.1 h4;unfold lu at h;unfold l3;rw[zm _ _ (fun i x h1 h2 hx h4=>hl i x (by omega) (by omega) hx h4)] at h;exact h
theorem FG (h:l3 p k e=M)(h1:k<i)(h2:i<e)(hx:p[i]?=H x):x.Kind≠0:=by
 unfold l3 at h;rw[LC] at h;have h:=h.2
 have:∀(n a:Nat),oh p (zq p k) k (p.drop a) n a=M->a<=i->i<a+n->x.Kind≠0:=by
  intro n;induction n with
  | zero=>intro a _ _ _;omega
  | succ n ih=>
   intro a h3 h4 h5;have a0:=(Lh.1 hx).1;have hy:p[a]?=H p[a]:=Lo (by omega);have h6:=tT (p:=p) (locals:=zq p k) (k:=k) (e:=a+(n+1)) hy (by omega);rw[show a+(n+1)-a=n+1 from by omega,show a+(n+1)-(a+1)=n from by omega] at h6;rw[h6,LC] at h3;rcases On h4 with h7 | h7
   ·subst h7
    rw[hy] at hx;injection hx with hx
    have:=h3.1;unfold qi at this;simp only[LC,NW,Me] at this;rw[<-hx];exact this.1
   ·exact ih (a+1) h3.2 (by omega) (by omega)
 exact this _ _ h (by omega) (by omega)
theorem CA {p:Q fG}:∀(m a b:Nat),b-a=m->a<=b->(∀(i:Nat)(x:fG),a<=i->i<b->p[i]?=H x->x.Kind≠0)->iS (p.drop a) a=iS (p.drop b) b
 | 0,a,b,hm,pM,_=>by rw[show b=a from by omega]
 | m+1,a,b,hm,pM,h=>by
  by_cases ha:a<p.length
  ·have hx:p[a]?=H p[a]:=Lo ha
   rw[DB hx,Lt (h a _ (Lz _) (by omega) hx)];exact CA m (a+1) b (by omega) (by omega) (fun i x h1 h2=>h i x (by omega) h2)
  ·rw[MU (by omega),MU (by omega)]
   rfl
theorem yp:∀(l:Q fG)(k:Nat),∀ g∈iS l k,(k:Int)<=g
 | [],k,g,h=>by simp[iS] at h
 | y::r,k,g,h=>by
  unfold iS at h;split at h
  ·rcases LU.1 h with h | h
   ·omega
   ·have:=yp r (k+1) g h;omega
  ·have:=yp r (k+1) g h;omega
theorem yr {p:Q fG}(hn:∀(i:Nat)(x:fG),p[i]?=H x->x.Kind=0->zQ p x.Name=i):∀(n k:Nat),p.length-k<=n->k<=p.length->(∀ j e,j<k->gg p j e->e<k)->
  (lQ p n k=M->l6 p (iS (p.drop k) k) k=M)/\((∀(i:Nat) (x:fG),p[i]?=H x->x.Kind=4->∃ j:Nat,zx p j=(i:Int))->l6 p (iS (p.drop k) k) k=M->lQ p n k=M)
 | 0,k,hl,hk,_=>by
  rw[MU (by omega)];exact⟨fun _=>LN (by omega),fun _ _=>rfl⟩
 | n+1,k,hl,hk,hb=>by
  by_cases hlt:k<p.length
  ·have hx:p[k]?=H p[k]:=Lo hlt
   rw[DB hx];simp only[lQ,hx];by_cases h0:p[k].Kind=0
   ·rw[Lu h0]
    simp only[l6,OU,M4,s9,Lw,hx,hn k _ hx h0,h0];rcases pQ p k with⟨g,_⟩ | ⟨e,g1,g2⟩
    ·rw[g];simp
    ·have a7:=g2.lt
     have aa:=g2.len;rw[g1,Lw];rw[LN (show (0:Int)<=(e:Int) from by omega),M4,M4]
     have a4:∀ j e',j<e+1->gg p j e'->e'<e+1:=fun j e' hj he'=>by
      rcases Ob j k with h | h | h
      ·have:=hb j e' h he';omega
      ·subst h;have:=he'.uniq g2;omega
      ·by_cases hje:j=e
       ·subst hje
        obtain⟨y,hy,h7⟩:=g2.last;obtain⟨z,hz,ho⟩:=he'.op;rw[hy] at hz;injection hz with hz
        rw[<-hz,h7] at ho;cases ho
       ·obtain⟨z,hz,ho⟩:=he'.op
        obtain⟨e2,w1,w2,w3⟩:=g2.inner h (by omega) hz ho;have:=w1.uniq he';omega
     have a1:l3 p k e=M->iS (p.drop (k+1)) (k+1)=iS (p.drop (e+1)) (e+1):=fun hbo=>CA _ (k+1) (e+1) rfl (by omega) (fun i x h1 h2 hx'=>by
      by_cases hie:i=e
      ·subst hie
       obtain⟨y,hy,h7⟩:=g2.last;rw[hx'] at hy;injection hy with hy
       rw[hy,h7];decide
      ·exact FG hbo (by omega) (by omega) hx')
     have a0:((e:Int)+1)=((e+1:Nat):Int):=by omega
     obtain⟨i1,i2⟩:=yr hn n (e+1) (by omega) (by omega) a4;constructor
     ·intro h
      rw[LC] at h |-;obtain⟨h2,h3⟩:=h;have a3:=Hc h2 (by omega);rw[a1 a3,a0];exact⟨a3,i1 h3⟩
     ·intro a2 h
      rw[LC] at h |-;obtain⟨h2,h3⟩:=h;rw[a1 h2,a0] at h3;refine⟨?_,i2 a2 h3⟩;unfold lu;unfold l3 at h2;rw[zm _ _ (fun i x h1' h2' hx' h4=>?_)]
      ·exact h2
      ·obtain⟨j,hj⟩:=a2 i x hx' h4
       rcases nI p j with a8 | ⟨a,ha,hE⟩
       ·omega
       ·obtain rfl:a=i:=by omega
        unfold my;rw[Nv];refine⟨j,?_,by simpa using hj⟩;rw[Oc];have a9:=hE.lt;refine⟨?_,by omega⟩;refine Nat.le_of_not_lt (fun hjk=>?_);obtain⟨e0,a5,a6⟩:=hE.iX;have:=hb j e0 hjk a5;omega
   ·rw[Lt h0,LK h0]
    refine⟨fun h=>by simp at h,fun _ h=>?_⟩;exfalso;cases hg:iS (p.drop (k+1)) (k+1) with
    | nil=>rw[hg] at h;simp only[l6,LQ] at h;omega
    | cons g r=>
     rw[hg] at h;simp only[l6,LC,LQ] at h;have:=yp _ _ g (by rw[hg];simp);omega
  ·rw[MU (by omega)]
   refine⟨fun _=>LN (by omega),fun _ _=>?_⟩;unfold lQ;rw[MZ (by omega)]
theorem CE {p:Q fG}:∀(n k:Nat),p.length-k<=n->lQ p n k=M->∀(i:Nat)(x:fG),k<=i->p[i]?=H x->x.Kind=4->∃ j:Nat,zx p j=(i:Int)
 | 0,k,hn,_,i,x,hi,hx,_=>by have:=(Lh.1 hx).1;omega
 | n+1,k,hn,h,i,x,hi,hx,h4=>by
  have a1:=(Lh.1 hx).1;have hk:p[k]?=H p[k]:=Lo (by omega);simp only[lQ,hk,LC,LQ] at h;obtain⟨h1,h2,h3,h5⟩:=h;rcases pQ p k with⟨g,_⟩ | ⟨e,g1,g2⟩
  ·rw[g] at h2;omega
  ·rw[g1,Lw] at h3 h5
   have a2:=g2.lt;rcases Ny e i with a0 | a0
   ·exact CE n (e+1) (by omega) h5 i x (by omega) hx h4
   ·by_cases hik:i=k
    ·subst hik
     rw[hx] at hk;injection hk with hk
     rw[<-hk,h4] at h1;cases h1
    ·by_cases hee:i=e
     ·subst hee
      obtain⟨y,hy,h7⟩:=g2.last;rw[hx] at hy;injection hy with hy
      rw[hy,h7] at h4;cases h4
     ·have:=(xx (uB h3 (by omega) (by omega) hx)).2.1 h4
      unfold my at this;rw[Nv] at this;obtain⟨j,_,hj⟩:=this;exact⟨j,by simpa using hj⟩
theorem BL {p:Q fG}:∀(l:Q Int)(n:Int),l6 p l n=M->∀ k∈l,s9 p k=M
 | [],_,_,k,hk=>by simp at hk
 | a::r,n,h,k,hk=>by
  simp only[l6,LC] at h;rcases LU.1 hk with hk | hk
  ·rw[hk];exact h.2.1
  ·exact BL r _ h.2.2 k hk
theorem yq:∀(l:Q fG)(k i:Nat)(x:fG),l[i]?=H x->x.Kind=0->((k+i:Nat):Int)∈iS l k
 | [],_,_,_,h,_=>by simp at h
 | y::r,k,0,x,h,h0=>by
  simp only[Mf,Mg] at h;unfold iS;rw[Lu (by rw[h];exact h0)];simp
 | y::r,k,i+1,x,h,h0=>by
  have:=yq r (k+1) i x (by simpa using h) h0;rw[show k+1+i=k+(i+1) from by omega] at this;unfold iS;split
  ·exact ML _ this
  ·exact this
theorem Cp {p:Q fG}:∀(l:Q fG)(k:Nat),(∀(i:Nat)(x:fG),l[i]?=H x->oR p (k+i) x=M)->mK p l k=M
 | [],_,_=>rfl
 | y::r,k,h=>by
  simp only[mK,LC];refine⟨h 0 y rfl,Cp r (k+1) (fun i x hx=>?_)⟩;have:=h (i+1) x (by simpa using hx);rwa [show k+1+i=k+(i+1) from by omega]
theorem uE (p:Q fG):qS p=zs p:=by
 rw[OC];constructor
 ·intro h
  unfold qS at h;simp only[LC,LQ,zX] at h;obtain⟨h1,⟨_,h2⟩,h3,h4,h5,h6⟩:=h
  have hn:∀(i:Nat) (x:fG),p[i]?=H x->x.Kind=0->zQ p x.Name=i:=fun i x hx h0=>by
   have hm:=yq p 0 i x hx h0;rw[Mb] at hm;have:=BL _ _ h5 _ hm;unfold s9 at this;rw[Lw,hx] at this;simp only[LC,LQ] at this;exact this.1
  have a1:∀(i:Nat) (x:fG),p[i]?=H x->x.Kind=4->∃ j:Nat,zx p j=(i:Int):=fun i x hx a0=>by
   have:=(xI p 0).1 h6 i x hx a0;rw[Mb] at this;exact GY this
  unfold zs;simp only[LC,LQ];refine⟨h1,h4,by omega,Cp p 0 (fun i x hx=>?_),?_⟩
  ·rw[Mb]
   unfold oR;rw[LC];refine⟨NL.1 h3 x (LP hx),?_⟩;by_cases h0:x.Kind=0
   ·rw[Lu h0,LQ];exact hn i x hx h0
   ·rw[Lt h0]
  ·refine(yr hn p.length 0 (by omega) (Lv _) (fun j e hj=>by omega)).2 a1 ?_
   rw[Mt];exact h5
 ·intro h
  have hF:=nt h;unfold zs at h;simp only[LC,LQ] at h;obtain⟨h1,h2,h3,h4,h5⟩:=h;unfold qS;simp only[LC,LQ,zX];refine⟨h1,⟨?_,by omega⟩,?_,h2,?_,?_⟩
  ·obtain⟨x,hx,h0,_⟩:=hF.head
   have:=yq p 0 0 x hx h0;have:0<(iS p 0).length:=List.length_pos_of_mem this;unfold zk;omega
  ·rw[NL]
   intro x hx;obtain⟨i,hi⟩:=List.mem_iff_getElem?.1 hx;exact hF.line i x hi
  ·have:=(yr hF.own p.length 0 (by omega) (Lv _) (fun j e hj=>by omega)).1 h5
   rw[Mt] at this;exact this
  ·rw[xI]
   intro i x hx a0;rw[Mb];obtain⟨j,hj⟩:=CE p.length 0 (by omega) h5 i x (Lv _) hx a0;exact Hh hj
def IB (x:gC)(w:N)(r:Ending)(w':N):Prop:=r=.returned (.agg #[F I x.Frames,F I x.Inline,X x.Fold,X x.Split])/\gM uj w w' [F I x.Frames,F I x.Inline,X x.Fold,X x.Split] x/\fF w w'
theorem GI {x:gC} (h0:fV x.Frames)(h1:fV x.Inline):uj.O w [F I x.Frames,F I x.Inline,X x.Fold,X x.Split] x ([]):=by
 have h:uj.O w [F I x.Frames,F I x.Inline,X x.Fold,X x.Split] x ([]++([]++([]++[]))):=⟨[F I x.Frames],[F I x.Inline,X x.Fold,X x.Split],[],([]++([]++[])),rfl,rfl,⟨rfl,h0.1,h0.2,rfl⟩,⟨[F I x.Inline],[X x.Fold,X x.Split],[],([]++[]),rfl,rfl,⟨rfl,h1.1,h1.2,rfl⟩,⟨[X x.Fold],[X x.Split],[],[],rfl,rfl,⟨rfl,rfl⟩,⟨rfl,rfl⟩⟩⟩⟩
 simpa using h
theorem zij {x:gC} (h0:fV x.Frames)(h1:fV x.Inline):LR prog 9 #[.agg #[F I x.Frames,F I x.Inline,X x.Fold,X x.Split]] w (IB x w):=by
 go_enter func9,ntmps9;go_wp2;refine Ln (v:=.agg #[F I x.Frames,F I x.Inline,X x.Fold,X x.Split]) (by simp[Ly,results9,go_sem]) rfl ⟨rfl,?_,gG⟩;exact⟨_,GI h0 h1,Ou,fun b hb=>absurd hb (MX)⟩
def Ee (xs:Q jc)(w:N)(r:Ending)(w':N):Prop:=∃ A c S,r=.returned (J A xs.length c)/\Has (kd.sl 139) w' [J A xs.length c] xs S/\(∀ b∈S,w.heap.size<=b)/\fF w w'
def nH (xs:Q fQ)(k:Nat):K fS:=match k with
 | 0=>V
 | j+1=>xs[j]?.map fQ.Item
def pB (x:fQ):jc:=⟨x.Offset,x.Item.fN,x.Item.Start⟩
theorem pv {x:fQ} (hx:xs[k]?=H x)(h:∀ y,nH xs k=H y->¬ (x.Item.Start=U/\y.Start=U/\y.fN=x.Item.fN)):nQ (nH xs k) (xs.drop k)=pB x::nQ (nH xs (k+1)) (xs.drop (k+1)):=by
 obtain⟨h1,rfl⟩:=Lh.1 hx;rw[LI h1];have hp:nH xs (k+1)=H xs[k].Item:=by simp[nH,h1]
 rw[hp];cases hq:nH xs k with
 | none=>rfl
 | some y=>
  show (if _ then [] else [_])++_=_;rw[Lt (h y hq)];rfl
theorem Br {x:fQ} {y:fS} (hx:xs[k]?=H x)(hq:nH xs k=H y)(h:x.Item.Start=U/\y.Start=U/\y.fN=x.Item.fN):nQ (nH xs k) (xs.drop k)=nQ (nH xs (k+1)) (xs.drop (k+1)):=by
 obtain⟨h1,rfl⟩:=Lh.1 hx;rw[LI h1];have hp:nH xs (k+1)=H xs[k].Item:=by simp[nH,h1]
 rw[hp,hq];show (if _ then [] else [_])++_=_;rw[Lu h];rfl
theorem tK {W:N} {g:Nat} {o0 o1 o2 o3 o4 o5 o6 o7:LA} {e:TypeId} (h:W.heap[g]?=H (C #[o0,o1,o2,o3,o4,o5,o6,o7] e (0,0))) :
  Lg W ⟨g,0,V⟩=H o0/\Lg W ⟨g,1,V⟩=H o1/\Lg W ⟨g,2,V⟩=H o2/\Lg W ⟨g,3,V⟩=H o3/\Lg W ⟨g,4,V⟩=H o4/\Lg W ⟨g,5,V⟩=H o5/\Lg W ⟨g,6,V⟩=H o6/\Lg W ⟨g,7,V⟩=H o7/\(∀ j,LD W ⟨g,j,V⟩=U)/\g<W.heap.size:=by
 refine⟨?_,?_,?_,?_,?_,?_,?_,?_,fun j=>by simp[LD,h],(blt h)⟩
 all_goals
  rw[MD W g _ _ _ (0,0) h]
  rfl
theorem oL {p:Mh} {v:LA} (h:w.cell? p=H v)(n:Nat):(w.drewN n).cell? p=H v:=za ((fF.refl _).drewN n) h
theorem uA (x:fQ){b:Bool}(h:x.Item.Start=b)(h0:fV x.Offset)(h1:fV x.Item.fN):kd.R w B [F I x.Offset,F I x.Item.fN,X b] (pB x):=by
 subst h;exact Jq (x:=pB x) h0 h1
theorem si {g:Prop} (f:g:=by
  go_quiet (fail)
  go_wp2_with(fail)
  go_roundw
  exact⟨k+1,A5,c5,S,acc,rfl,by go_num,by omega,fE ((hG.out.trans hgY).trans gF),fE ((hH.out.fO hgY).fO gF),hS,fE (by rw[<-hA.out,HSK.out]),by omega⟩
  exact gL):g:=f
theorem zrz (hx:(oH.sl 133).R w w.heap.size [J A xs.length c] xs)(hl:xs.length<=1000000) :
  LR prog 38 #[J A xs.length c] w (Ee (nE xs) w):=by
 go_enter func38,ntmps38;go_wp2_with(fail);go_loopw [3,4] (fun z j wr=>∃(k:Nat) (A5:K Mh) (c5:Nat) (S:Q Nat) (acc:Q jc),z=J A5 acc.length c5/\j=F I k/\k<=xs.length/\Hid (fF w wr)/\Hid (Has (kd.sl 139) wr [J A5 acc.length c5] acc S)/\Hid (∀ b∈S,w.heap.size<=b)/\Hid (acc++nQ (nH xs k) (xs.drop k)=nE xs)/\acc.length<=k) (fun _ j _=>xs.length-(Ml j).toNat)
 case atStart=>exact⟨0,_,0,[w.heap.size],[],rfl,rfl,Lv _,fE gF,fE (Has.emp kd (zj (Lp _ _) gF)),fE (fun b hb=>by simp only[Lr] at hb;omega),fE rfl,by simp⟩
 case round=>
  obtain⟨k,A5,c5,S,acc,rfl,rfl,hk,hG,hH,hS,hA,ax⟩:=hrel;by_cases hlt:k<xs.length
  ·obtain⟨g,ai,x,a7,a9,rfl,ay,a1,x0,x1,x2,x3,x4,x5,x6,x7,b0,b1,b2,b3,h5,b6⟩:=l2 hx hlt
   have aq:(k:Int)<(xs.length:Int):=by omega
   have az:Ll I ((k:Int)+1)=(k:Int)+1:=iw;have x0:=za hG.out x0;have x1:=za hG.out x1;have x2:=za hG.out x2;have x3:=za hG.out x3;have x4:=za hG.out x4;have x5:=za hG.out x5;have x6:=za hG.out x6;have x7:=za hG.out x7;obtain⟨bs,ab⟩:∃ b,x.Item.Start=b:=⟨_,rfl⟩
   rw[ab] at x4;have a5:=fE ab;clear ab;go_upto_region 6 with(fail);have eb:(wr.alloc (C #[F I x.Item.Op.Code,F I x.Item.Op.Arg,F I x.Item.fN,X bs,J a7 x.Item.fH.length a9,F I x.Item.fK,X x.Item.fI] 131)).heap[wr.heap.size]?=H (C #[F I x.Item.Op.Code,F I x.Item.Op.Arg,F I x.Item.fN,X bs,J a7 x.Item.fH.length a9,F I x.Item.fK,X x.Item.fI] 131 (0,0)):=Lp _ _;have hgY:fF wr (wr.alloc (C #[F I x.Item.Op.Code,F I x.Item.Op.Arg,F I x.Item.fN,X bs,J a7 x.Item.fH.length a9,F I x.Item.fK,X x.Item.fI] 131)):=(fF.refl _).alloc _;obtain⟨g5,ac⟩:∃ g,wr.heap.size=g:=⟨_,rfl⟩
   have au:w.heap.size<=wr.heap.size:=hG.out.size;rw[ac] at eb au |-;have aj:=fE ac;clear ac;generalize (wr.alloc _)=Y at eb hgY |-;obtain⟨o0,o1,o2,o3,o4,o5,o6,of,ol⟩:=mr eb;have x0:=za hgY x0;have hb:bs=M∨bs=U:=by cases bs <;> simp
   have a0:0<k∨k=0:=by omega
   refine OV hb (fun hb=>OV a0 (fun a0=>?tp) (fun a0=>?tz)) (fun hb=>OV a0 (fun a0=>?fp) (fun a0=>?fz))
   case' tp=>
    have a2:(0:Int)<(k:Int):=by omega
    have a3:=fE (pv a1 (fun y hy hh=>by rw[a5.out,hb] at hh;exact NN hh.1))
   case' tz=>
    have a2:¬ ((0:Int)<(k:Int)):=by omega
    have ae:¬ (0<k):=by omega
    have a3:=fE (pv a1 (fun y hy hh=>by rw[a5.out,hb] at hh;exact NN hh.1));clear a0
   case' fz=>
    have a2:¬ ((0:Int)<(k:Int)):=by omega
    have ae:¬ (0<k):=by omega
    have a3:=fE (pv a1 (fun y hy hh=>by rw[a0] at hy;cases hy));clear a0
   case' fp=>
    have a2:(0:Int)<(k:Int):=by omega
    obtain⟨j,hj⟩:∃ j,k=j+1:=⟨k-1,by omega⟩
    have ao:j<xs.length:=by omega
    obtain⟨g',ag,q,av,aw,aa,an,ah,q0,q1,q2,q3,q4,_⟩:=l2 hx ao;injection aa with aa
    injection aa with hAA1 hAA2
    obtain rfl:g=g':=hAA1;obtain rfl:ai=ag:=hAA2;have q3:=za (hG.out.trans hgY) q3;have q4:=za (hG.out.trans hgY) q4;have ar:Ll I ((k:Int)-1)=(j:Int):=by rw[hj];show Ll I (((j+1:Nat):Int)-1)=_;rw[show ((j+1:Nat):Int)-1=(j:Int) from by omega];exact iw
    have ap:(j:Int)<(xs.length:Int):=by omega
    have a8:Hid (nH xs k=H q.Item):=fE (by rw[hj];show (xs[j]?.map fQ.Item)=_;rw[ah];rfl);clear hj ah;refine OV (show q.Item.Start=M∨q.Item.Start=U by cases q.Item.Start <;> simp) (fun hqs=>OV (show (q.Item.fN == x.Item.fN)=M∨(q.Item.fN == x.Item.fN)=U by cases (q.Item.fN == x.Item.fN) <;> simp) (fun af=>?qa) (fun af=>?qb)) (fun hqs=>OV (Classical.em (q.Item.fN=x.Item.fN)) (fun hql=>?qc) (fun hql=>?qd))
   case' qa | qb=>
    rw[hqs] at q4;have a3:=fE (pv a1 (fun y hy hh=>by rw[a8.out] at hy;injection hy with hy;rw[<-hy,hqs] at hh;exact NN hh.2.1))
   case' qd=>
    rw[hqs] at q4;have af:(q.Item.fN == x.Item.fN)=U:=Lk.2 hql;have a3:=fE (pv a1 (fun y hy hh=>by rw[a8.out] at hy;injection hy with hy;rw[<-hy] at hh;exact hql hh.2.2));clear hql hqs
   case qc=>
    rw[hqs] at q4;have af:(q.Item.fN == x.Item.fN)=M:=LM.2 hql;have HSK:=fE (Br a1 a8.out ⟨a5.out.trans hb,hqs,hql⟩);clear a1 hqs hql;exact si
   all_goals
    clear a1
    go_quiet (fail)
    have a4:g5∉S:=fun hm=>by have h:=hH.out.lt g5 hm;have h2:=aj.out;omega
    have am:g∉S:=fun hm=>by have h:=hS.out g hm;omega
    have ad:g<Y.heap.size:=by omega
    go_upto_region 7 with(fail)
    go_region_held3 (fun w'=>Lg w' ⟨g5,2,V⟩=H (F I x.Item.fN)/\Lg w' ⟨g5,3,V⟩=H (X bs)/\Lg w' ⟨g,ai+k*8,V⟩=H (F I x.Offset)) ((repeat' apply Ls) <;> ((repeat (first | with_reducible assumption | with_reducible refine zC ?_ _ _ | with_reducible refine zo ?_ _ | with_reducible refine zb ?_ | with_reducible refine oL ?_ _));done)) (first | (refine zO (L:=acc.length+1) rfl (.tmp 47) (.tmp 58) vn uX ((hH.out.fO hgY).fO gF) (W1:=w) (B:=0) (ec:=[F I x.Offset,F I x.Item.fN,X _]) (y:=pB x) (uA x (a5.out.trans hb) b0 b3) rfl rfl rfl (by intro j u hu;simpa[go_sem] using hu) rfl (by omega) (by omega) ?_;intro A8 c8 W8 S8 a6 ak al;have o2:=(a6.cell (g:=g5) (Li ol (fF.size gF)) a4 _).trans (za gF o2);have o3:=(a6.cell (g:=g5) (Li ol (fF.size gF)) a4 _).trans (za gF o3);have x0:=(a6.cell (g:=g) (Li ad (fF.size gF)) am _).trans (za gF x0)))
    all_goals go_wp2_with(fail)
    go_roundw
    exact⟨k+1,A8,c8,S8,acc++[pB x],by rw[Lj];rfl,by go_num,by omega,fE (a6.fO ((hG.out.trans hgY).trans gF) hS.out),fE (by rw[Lj];exact ak),fE (fun b hb=>(al b hb).elim (hS.out b) (fun h=>LO (((hG.out.trans hgY).trans gF)).size h)),fE (by rw[<-hA.out,a3.out,LZ];rfl),by rw[Lj,Mj];omega⟩
    exact gL
  ·obtain rfl:k=xs.length:=by omega
   have aq:¬ ((xs.length:Int)<(xs.length:Int)):=by omega
   have HE:Hid (acc=nE xs):=fE (by have h:=hA.out;rw[LY] at h;simpa[nQ] using h);go_wp2_with(fail);exact Ln (v:=J A5 acc.length c5) (by simp[Ly,results38,go_sem]) rfl (by rw[<-HE.out];exact⟨A5,c5,S,rfl,hH.out,hS.out,hG.out⟩)
theorem tO {g:Prop} (f:g:=by
  go_upto_region 5 with(fail)
  have eb:(wr.alloc (C #[F I x.Offset,F I x.Item.Op.Code,F I x.Item.Op.Arg,F I x.Item.fN,X U,J A20 x.Item.fH.length c20,F I x.Item.fK,X x.Item.fI] 133)).heap[wr.heap.size]?=H (C #[F I x.Offset,F I x.Item.Op.Code,F I x.Item.Op.Arg,F I x.Item.fN,X U,J A20 x.Item.fH.length c20,F I x.Item.fK,X x.Item.fI] 133 (0,0)):=Lp _ _
  have hgY:fF wr (wr.alloc (C #[F I x.Offset,F I x.Item.Op.Code,F I x.Item.Op.Arg,F I x.Item.fN,X U,J A20 x.Item.fH.length c20,F I x.Item.fK,X x.Item.fI] 133)):=(fF.refl _).alloc _
  obtain⟨g5,hg5⟩:∃ g,wr.heap.size=g:=⟨_,rfl⟩
  have hwz:w.heap.size<=wr.heap.size:=hG.out.size
  rw[hg5] at eb hwz |-
  have HG5:=fE hg5
  clear hg5
  generalize (wr.alloc _)=Y at eb hgY |-
  obtain⟨o0,o1,o2,o3,o4,o5,o6,o7,of,ol⟩:=tK eb
  have x0:=za hgY x0
  have q3:=za hgY q3
  have q4:=za hgY q4
  go_quiet (fail)
  go_wp2_with(first | (refine zr (L:=acc.length+1) rfl (.tmp 45) (.tmp 55) vn uX ((hH.out.fO hgY).fO gF) (W1:=w) (B:=0) (ec:=[F I x.Offset,F I x.Item.fN,X U]) (y:=pB x) (uA x HXS.out b0 b3) rfl rfl rfl (by intro j u hu;simpa[go_sem] using hu) rfl (by omega) (by omega) ?_;intro A8 c8 W8 S8 hon hH8 hS8))
  go_roundw
  exact⟨k+1,A8,c8,S8,acc++[pB x],by rw[Lj];rfl,by go_num,by omega,fE (hon.fO ((hG.out.trans hgY).trans gF) hS.out),fE (by rw[Lj];exact hH8),fE (fun b hb=>(hS8 b hb).elim (hS.out b) (fun h=>LO (((hG.out.trans hgY).trans gF)).size h)),fE (by rw[<-hA.out,HPU.out,LZ];rfl),by rw[Lj,Mj];omega⟩
  exact gL):g:=f
theorem tP {g:Prop} (f:g:=by
  go_roundw
  exact⟨k+1,A8,c8,S8,acc++[pB x],by rw[Lj];rfl,by go_num,by omega,fE (hon.fO ((hG.out.trans hgY).trans gF) hS.out),fE (by rw[Lj];exact hH8),fE (fun b hb=>(hS8 b hb).elim (hS.out b) (fun h=>LO (((hG.out.trans hgY).trans gF)).size h)),fE (by rw[<-hA.out,HPU.out,LZ];rfl),by rw[Lj,Mj];omega⟩
  exact gL):g:=f
theorem zry (hx:(oH.sl 133).R w w.heap.size [J A xs.length c] xs)(hl:xs.length<=1000000) :
  LR prog 48 #[J A xs.length c] w (Ee (nE xs) w):=by
 go_enter func48,ntmps48;go_wp2_with(fail);go_loopw [3,9] (fun z j wr=>∃(k:Nat) (A5:K Mh) (c5:Nat) (S:Q Nat) (acc:Q jc),z=J A5 acc.length c5/\j=F I k/\k<=xs.length/\Hid (fF w wr)/\Hid (Has (kd.sl 139) wr [J A5 acc.length c5] acc S)/\Hid (∀ b∈S,w.heap.size<=b)/\Hid (acc++nQ (nH xs k) (xs.drop k)=nE xs)/\acc.length<=k) (fun _ j _=>xs.length-(Ml j).toNat)
 case atStart=>exact⟨0,_,0,[w.heap.size],[],rfl,rfl,Lv _,fE gF,fE (Has.emp kd (zj (Lp _ _) gF)),fE (fun b hb=>by simp only[Lr] at hb;omega),fE rfl,by simp⟩
 case round=>
  obtain⟨k,A5,c5,S,acc,rfl,rfl,hk,hG,hH,hS,hA,aj⟩:=hrel;by_cases hlt:k<xs.length
  ·obtain⟨g,ag,x,A20,c20,rfl,ak,a1,x0,x1,x2,x3,x4,x5,x6,x7,b0,b1,b2,b3,h5,b6⟩:=l2 hx hlt
   have ae:(k:Int)<(xs.length:Int):=by omega
   have al:Ll I ((k:Int)+1)=(k:Int)+1:=iw;have x0:=za hG.out x0;have x1:=za hG.out x1;have x2:=za hG.out x2;have x3:=za hG.out x3;have x4:=za hG.out x4;have x5:=za hG.out x5;have x6:=za hG.out x6;have x7:=za hG.out x7;rcases LH x.Item.Start with a0 | a0
   ·rw[a0] at x4
    have a2:0<k∨k=0:=by omega
    rcases a2 with a2 | a2
    ·have a4:(0:Int)<(k:Int):=by omega
     have HPU:=fE (pv a1 (fun y hy hh=>by rw[a0] at hh;exact NN hh.1));have HXS:=fE a0;clear a0 a1;go_upto_region 5 with(fail);have eb:(wr.alloc (C #[F I x.Offset,F I x.Item.Op.Code,F I x.Item.Op.Arg,F I x.Item.fN,X M,J A20 x.Item.fH.length c20,F I x.Item.fK,X x.Item.fI] 133)).heap[wr.heap.size]?=H (C #[F I x.Offset,F I x.Item.Op.Code,F I x.Item.Op.Arg,F I x.Item.fN,X M,J A20 x.Item.fH.length c20,F I x.Item.fK,X x.Item.fI] 133 (0,0)):=Lp _ _;have hgY:fF wr (wr.alloc (C #[F I x.Offset,F I x.Item.Op.Code,F I x.Item.Op.Arg,F I x.Item.fN,X M,J A20 x.Item.fH.length c20,F I x.Item.fK,X x.Item.fI] 133)):=(fF.refl _).alloc _;obtain⟨g5,hg5⟩:∃ g,wr.heap.size=g:=⟨_,rfl⟩
     have hwz:w.heap.size<=wr.heap.size:=hG.out.size;rw[hg5] at eb hwz |-;have HG5:=fE hg5;clear hg5;generalize (wr.alloc _)=Y at eb hgY |-;obtain⟨o0,o1,o2,o3,o4,o5,o6,o7,of,ol⟩:=tK eb;have x0:=za hgY x0;go_quiet (fail);go_wp2_with(first | (refine zr (L:=acc.length+1) rfl (.tmp 45) (.tmp 55) vn uX ((hH.out.fO hgY).fO gF) (W1:=w) (B:=0) (ec:=[F I x.Offset,F I x.Item.fN,X M]) (y:=pB x) (uA x HXS.out b0 b3) rfl rfl rfl (by intro j u hu;simpa[go_sem] using hu) rfl (by omega) (by omega) ?_;intro A8 c8 W8 S8 hon hH8 hS8));exact tP
    ·have a4:¬ ((0:Int)<(k:Int)):=by omega
     have a8:¬ (0<k):=by omega
     clear a2;have HPU:=fE (pv a1 (fun y hy hh=>by rw[a0] at hh;exact NN hh.1));have HXS:=fE a0;clear a0 a1;go_upto_region 5 with(fail);have eb:(wr.alloc (C #[F I x.Offset,F I x.Item.Op.Code,F I x.Item.Op.Arg,F I x.Item.fN,X M,J A20 x.Item.fH.length c20,F I x.Item.fK,X x.Item.fI] 133)).heap[wr.heap.size]?=H (C #[F I x.Offset,F I x.Item.Op.Code,F I x.Item.Op.Arg,F I x.Item.fN,X M,J A20 x.Item.fH.length c20,F I x.Item.fK,X x.Item.fI] 133 (0,0)):=Lp _ _;have hgY:fF wr (wr.alloc (C #[F I x.Offset,F I x.Item.Op.Code,F I x.Item.Op.Arg,F I x.Item.fN,X M,J A20 x.Item.fH.length c20,F I x.Item.fK,X x.Item.fI] 133)):=(fF.refl _).alloc _;obtain⟨g5,hg5⟩:∃ g,wr.heap.size=g:=⟨_,rfl⟩
     have hwz:w.heap.size<=wr.heap.size:=hG.out.size;rw[hg5] at eb hwz |-;have HG5:=fE hg5;clear hg5;generalize (wr.alloc _)=Y at eb hgY |-;obtain⟨o0,o1,o2,o3,o4,o5,o6,o7,of,ol⟩:=tK eb;have x0:=za hgY x0;go_quiet (fail);go_wp2_with(first | (refine zr (L:=acc.length+1) rfl (.tmp 45) (.tmp 55) vn uX ((hH.out.fO hgY).fO gF) (W1:=w) (B:=0) (ec:=[F I x.Offset,F I x.Item.fN,X M]) (y:=pB x) (uA x HXS.out b0 b3) rfl rfl rfl (by intro j u hu;simpa[go_sem] using hu) rfl (by omega) (by omega) ?_;intro A8 c8 W8 S8 hon hH8 hS8));exact tP
   ·rw[a0] at x4
    have a2:0<k∨k=0:=by omega
    rcases a2 with a2 | a2
    ·have a4:(0:Int)<(k:Int):=by omega
     obtain⟨j,hj⟩:∃ j,k=j+1:=⟨k-1,by omega⟩
     have ac:j<xs.length:=by omega
     obtain⟨g',a9,q,ah,ai,a7,ab,aa,q0,q1,q2,q3,q4,_⟩:=l2 hx ac;injection a7 with a7
     injection a7 with hAA1 hAA2
     obtain rfl:g=g':=hAA1;obtain rfl:ag=a9:=hAA2;have q3:=za hG.out q3;have q4:=za hG.out q4;have af:Ll I ((k:Int)-1)=(j:Int):=by rw[hj];show Ll I (((j+1:Nat):Int)-1)=_;rw[show ((j+1:Nat):Int)-1=(j:Int) from by omega];exact iw
     have ad:(j:Int)<(xs.length:Int):=by omega
     have a6:Hid (nH xs k=H q.Item):=fE (by rw[hj];show (xs[j]?.map fQ.Item)=_;rw[aa];rfl);clear hj aa;rcases LH q.Item.Start with a3 | a3
     ·rw[a3] at q4
      have a5:(q.Item.fN == x.Item.fN)=M∨(q.Item.fN == x.Item.fN)=U:=by cases (q.Item.fN == x.Item.fN) <;> simp
      rcases a5 with a5 | a5
      ·
       have HPU:=fE (pv a1 (fun y hy hh=>by rw[a6.out] at hy;injection hy with hy;rw[<-hy,a3] at hh;exact NN hh.2.1));have HXS:=fE a0;clear a0 a1;exact tO
      ·
       have HPU:=fE (pv a1 (fun y hy hh=>by rw[a6.out] at hy;injection hy with hy;rw[<-hy,a3] at hh;exact NN hh.2.1));have HXS:=fE a0;clear a0 a1;exact tO
     ·rw[a3] at q4
      by_cases hql:q.Item.fN=x.Item.fN
      ·have a5:(q.Item.fN == x.Item.fN)=M:=LM.2 hql
       have HSK:=fE (Br a1 a6.out ⟨a0,a3,hql⟩);have HXS:=fE a0;clear a0 a1;clear a3 hql;go_upto_region 5 with(fail);have eb:(wr.alloc (C #[F I x.Offset,F I x.Item.Op.Code,F I x.Item.Op.Arg,F I x.Item.fN,X U,J A20 x.Item.fH.length c20,F I x.Item.fK,X x.Item.fI] 133)).heap[wr.heap.size]?=H (C #[F I x.Offset,F I x.Item.Op.Code,F I x.Item.Op.Arg,F I x.Item.fN,X U,J A20 x.Item.fH.length c20,F I x.Item.fK,X x.Item.fI] 133 (0,0)):=Lp _ _;have hgY:fF wr (wr.alloc (C #[F I x.Offset,F I x.Item.Op.Code,F I x.Item.Op.Arg,F I x.Item.fN,X U,J A20 x.Item.fH.length c20,F I x.Item.fK,X x.Item.fI] 133)):=(fF.refl _).alloc _;obtain⟨g5,hg5⟩:∃ g,wr.heap.size=g:=⟨_,rfl⟩
       have hwz:w.heap.size<=wr.heap.size:=hG.out.size;rw[hg5] at eb hwz |-;have HG5:=fE hg5;clear hg5;generalize (wr.alloc _)=Y at eb hgY |-;obtain⟨o0,o1,o2,o3,o4,o5,o6,o7,of,ol⟩:=tK eb;have x0:=za hgY x0;have q3:=za hgY q3;have q4:=za hgY q4;exact si
      ·have a5:(q.Item.fN == x.Item.fN)=U:=Lk.2 hql
       have HPU:=fE (pv a1 (fun y hy hh=>by rw[a6.out] at hy;injection hy with hy;rw[<-hy] at hh;exact hql hh.2.2));have HXS:=fE a0;clear a0 a1 hql a3;exact tO
    ·have a4:¬ ((0:Int)<(k:Int)):=by omega
     have a8:¬ (0<k):=by omega
     have HPU:=fE (pv a1 (fun y hy hh=>by rw[a2] at hy;cases hy));have HXS:=fE a0;clear a0 a1 a2;go_upto_region 5 with(fail);have eb:(wr.alloc (C #[F I x.Offset,F I x.Item.Op.Code,F I x.Item.Op.Arg,F I x.Item.fN,X U,J A20 x.Item.fH.length c20,F I x.Item.fK,X x.Item.fI] 133)).heap[wr.heap.size]?=H (C #[F I x.Offset,F I x.Item.Op.Code,F I x.Item.Op.Arg,F I x.Item.fN,X U,J A20 x.Item.fH.length c20,F I x.Item.fK,X x.Item.fI] 133 (0,0)):=Lp _ _;have hgY:fF wr (wr.alloc (C #[F I x.Offset,F I x.Item.Op.Code,F I x.Item.Op.Arg,F I x.Item.fN,X U,J A20 x.Item.fH.length c20,F I x.Item.fK,X x.Item.fI] 133)):=(fF.refl _).alloc _;obtain⟨g5,hg5⟩:∃ g,wr.heap.size=g:=⟨_,rfl⟩
     have hwz:w.heap.size<=wr.heap.size:=hG.out.size;rw[hg5] at eb hwz |-;have HG5:=fE hg5;clear hg5;generalize (wr.alloc _)=Y at eb hgY |-;obtain⟨o0,o1,o2,o3,o4,o5,o6,o7,of,ol⟩:=tK eb;have x0:=za hgY x0;go_quiet (fail);go_wp2_with(first | (refine zr (L:=acc.length+1) rfl (.tmp 45) (.tmp 55) vn uX ((hH.out.fO hgY).fO gF) (W1:=w) (B:=0) (ec:=[F I x.Offset,F I x.Item.fN,X U]) (y:=pB x) (uA x HXS.out b0 b3) rfl rfl rfl (by intro j u hu;simpa[go_sem] using hu) rfl (by omega) (by omega) ?_;intro A8 c8 W8 S8 hon hH8 hS8));exact tP
  ·obtain rfl:k=xs.length:=by omega
   have ae:¬ ((xs.length:Int)<(xs.length:Int)):=by omega
   have HE:Hid (acc=nE xs):=fE (by have h:=hA.out;rw[LY] at h;simpa[nQ] using h);go_wp2_with(fail);exact Ln (v:=J A5 acc.length c5) (by simp[Ly,results48,go_sem]) rfl (by rw[<-HE.out];exact⟨A5,c5,S,rfl,hH.out,hS.out,hG.out⟩)
end Go.Proofs.YtiihkapmggfjkaaGreat
