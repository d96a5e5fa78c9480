/-
  PART.
-/
import Derived.Test.YthgbglbaemelhaaGreatM13LawSlices
import Derived.Test.YthgbglbaemelhaaGreatM20LawSlices
set_option linter.unusedVariables false
set_option linter.unusedSimpArgs false
set_option maxRecDepth 100000
set_option maxHeartbeats 8000000
namespace Go.Proofs.YthgbglbaemelhaaGreat
open Option renaming some->Z,getD_some->Sq,map_some->Tm
open Bool renaming false->I,true->M
open _root_.Int renaming toNat_natCast->Ra
open List renaming length_cons->Rc,length_nil->Ru,getElem?_cons_zero->RA,length_singleton->RD,getElem?_cons_succ->Sw,sum_cons->SV,cons_append->Tt,foldl_cons->TC
open Go renaming World->U,yielded->Su
open Region renaming wanted->Rx,ready->RL,noSelect->Tn,free->Ui
open Go.RowKit
variable {a image:Int}{b:fV}{f j:Nat}{hJ l:Q fP}{p:Q fv}{x:lY}
theorem BL (a:Int):∀(n k:Nat),(pM a n k).length=n
 | 0,_=>rfl
 | n+1,k=>by simp[pM,BL a n]
theorem yR (h:kB x=M):(jR x).size=(iv x.Code).1+1:=by
 unfold jR;rw[Q5 h];show ((pB x.Code::pM x.Arg (iv x.Code).1 0).toArray).size=_;simp[BL]
theorem Cz (h:kB x=M):0<=x.Code/\x.Code<=17:=by
 unfold kB at h;rw[Q4] at h;exact zu.1 h.1
theorem JS (h:kB x=M):((jR x).size:Int)=zL x.Code:=by
 have hc:=Cz h;rw[yR h];unfold zL;rw[Q5 (zu.2 hc)];omega
theorem Kn (h:kB x=M)(pre rest:N):lE (pre++(jR x++rest)) pre.size=x.Code.toNat:=by
 have hc:=Cz h;unfold lE;rw[Tx,Tx,Array.toList_append,Array.toList_append,RF (by simp)];rw[show pre.size-pre.data.toList.length=0 from by simp];unfold jR;rw[Q5 h];simp only[Tt,RA,Tm,Sq];unfold pB;rw[Int.emod_eq_of_lt (by omega) (by omega)];have:x.Code.toNat<256:=by omega
 simp;omega
theorem M1 (h:kB x=M)(pre rest:N):(jh (pre++(jR x++rest)) (pre.size:Nat)).ok=M/\(jh (pre++(jR x++rest)) (pre.size:Nat)).n=(jR x).size:=by
 have hc:=Cz h;have h1:=Kn h pre rest;have h2:=yR h;have hs:(pre++(jR x++rest)).size=pre.size+((jR x).size+rest.size):=by simp[RI]
 have a0:((x.Code.toNat:Nat):Int)=x.Code:=by omega
 have hd:=Cw (s:=pre++(jR x++rest)) (a:=pre.size) (c:=x.Code.toNat) (w:=(iv x.Code).1) (sg:=(iv x.Code).2) (by omega) h1 (by omega) (by rw[a0]) (by omega);rw[hd];exact⟨rfl,h2.symm⟩
def nS:Q lY->N
 | []=>emp
 | x::r=>jR x++nS r
theorem Ok:emp.size=0:=rfl
theorem Di (b:N):emp++b=b:=UI (by rw[Tx];simp[emp])
theorem AG (b:N):b++emp=b:=UI (by rw[Tx];simp[emp])
theorem Ig:∀(l:Q lY)(pre:N),(∀ x∈l,kB x=M)->kS (pre++nS l) pre.size=M
 | [],pre,_=>DU (by simp only[nS,AG];omega)
 | x::r,pre,h=>by
  have hx:=h x (.head _);have a0:=yR hx;obtain⟨h1,h2⟩:=M1 hx pre (nS r);simp only[nS];rw[Ce (by simp only[RI];omega) h1,h2];have h3:=Ig r (pre++jR x) (fun y hy=>h y (.tail _ hy));rw[R9,RI] at h3;exact h3
theorem Nr {l:Q lY} (h:∀ x∈l,kB x=M):kS (nS l) 0=M:=by
 have:=Ig l emp h;rwa [Di] at this
structure lG where
 name:N
 ops:Q lY
def lG.code (b:lG):N:=nS b.ops
def ow:Q lG->N
 | []=>emp
 | b::r=>b.code++ow r
def pE:Q lG->Nat->Q fC
 | [],_=>[]
 | b::r,a=>⟨b.name,a,b.code.size⟩::pE r (a+b.code.size)
structure nz (b:lG):Prop where
 name:kU b.name=M
 ops:∀ x∈b.ops,kB x=M
 pos:0<b.ops.length
theorem nz.size {b:lG}(h:nz b):1<=b.code.size:=by
 unfold lG.code;have hp:=h.pos;have ho:=h.ops;cases hb:b.ops with
 | nil=>rw[hb] at hp;simp at hp
 | cons x r=>
  rw[hb] at ho;simp only[nS,RI];have:=yR (ho x (.head _));omega
theorem F2:∀(l:Q lG)(pre:N)(prev:Q N),(∀ b∈l,nz b)->(l.map lG.name).Nodup->(∀ b∈l,b.name∉prev)->jl (pre++ow l) (pE l pre.size) prev pre.size=M
 | [],pre,prev,_,_,_=>by simp[jl,pE,ow,AG]
 | b::r,pre,prev,h,hd,hp=>by
  have hb:=h b (.head _);have hs:=hb.size;have a2:(pre++ow (b::r)).size=pre.size+(b.code.size+(ow r).size):=by simp only[ow,RI]
  have a1:(pre++ow (b::r)).extract pre.size (pre.size+b.code.size)=b.code:=by
   simp only[ow];rw[<-R9,ByteArray.extract_append,RI,RP];rw[ByteArray.extract_append_eq_right rfl rfl];apply UI;rw[Tx,ByteArray.data_extract];simp
  simp only[RS,TA] at hd
  have ih:=F2 r (pre++b.code) (prev++[b.name]) (fun c hc=>h c (.tail _ hc)) hd.2 (fun c hc hm=>by
   rcases Q7.1 hm with hm | hm
   ·exact hp c (.tail _ hc) hm
   ·rw[QN] at hm
    exact hd.1 (hm ▸ List.mem_map_of_mem hc))
  rw[R9,RI] at ih;simp only[pE,jl,Ra,a2];rw[a1]
  have hn:prev.any (fun y=>decide (y=b.name))=I:=by
   rw[List.any_eq_false];intro y hy he;simp only[Rg] at he;exact hp b (.head _) (he ▸ hy)
  have a0:kS b.code 0=M:=Nr hb.ops;simp only[hn,hb.name,a0];simp only[UR,UX,Q4,Rg];exact⟨⟨⟨trivial,by omega⟩,by omega⟩,ih⟩
def Ds (l:Q lG):gu:=⟨ow l,pE l 0⟩
theorem JX {l:Q lG} (h:∀ b∈l,nz b)(hd:(l.map lG.name).Nodup)(hs:(ow l).size<=1000000):jr (Ds l)=M:=by
 unfold jr Ds;have:=F2 l emp [] h hd (fun b _ hm=>by cases hm);rw[Di] at this;simp only[Q4,Rg];exact⟨hs,this⟩
theorem xB (st:Q Int):∀(l:Q fP)(k j:Nat),(qS st l k)[j]?=(l[j]?).map (mG st (k+j))
 | [],_,_=>rfl
 | x::r,k,0=>rfl
 | x::r,k,j+1=>by
  simp only[qS,Sw];rw[xB st r (k+1) j,show k+1+j=k+(j+1) from by omega]
theorem BS (st:Q Int):∀(l:Q fP)(k:Nat),(qS st l k).length=l.length
 | [],_=>rfl
 | x::r,k=>by simp[qS,BS st r]
theorem F9 (c:Int):0<=zL c/\zL c<=5:=by
 unfold zL;split
 ·have:=rr c
  omega
 ·omega
theorem Fs:∀(l:Q fP)(a:Int)(j:Nat),j<=l.length->∃ v,(l5 l a)[j]?=Z v/\a<=v/\v<=a+5*(j:Int)
 | [],a,j,h=>by
  have:j=0:=by simpa using h
  subst this;exact⟨a,rfl,by omega,by omega⟩
 | x::r,a,0,_=>⟨a,rfl,by omega,by omega⟩
 | x::r,a,j+1,h=>by
  obtain⟨v,h1,h2,h3⟩:=Fs r (a+zL x.Op.Code) j (by simpa using h);have:=F9 x.Op.Code;exact⟨v,by simp only[l5,Sw];exact h1,by omega,by omega⟩
theorem CW (h:j<=l.length):a<=(l5 l a).getD j 0/\(l5 l a).getD j 0<=a+5*(j:Int):=by
 obtain⟨v,h1,h2,h3⟩:=Fs l a j h;rw[RG,h1];exact⟨h2,h3⟩
theorem Of (h:iA p l)(hl:l.length<=6000){j:Nat}{x:fL}(hx:(lJ l a)[j]?=Z x):kB x.Item.Op=M/\∃ y,l[j]?=Z y/\x.Item.Op.Code=y.Op.Code/\x.Item.fH=y.fH:=by
 unfold lJ at hx;rw[xB,Rk] at hx;cases hy:l[j]? with
 | none=>rw[hy] at hx;cases hx
 | some y=>
  rw[hy] at hx;simp only[Tm,Rv] at hx;subst hx;have a1:=(QM.1 hy).1;have hi:=h j y hy;have hc:=hi.code;unfold mG;by_cases hjmp:y.Op.Code=10∨y.Op.Code=11
  ·rw[Q5 hjmp]
   simp only;refine⟨?_,y,rfl,rfl,rfl⟩;have hj:=hi.jump hjmp;have h1:=CW (l:=l) (a:=a) (j:=y.Op.Arg.toNat) (by omega);have h2:=CW (l:=l) (a:=a) (j:=j+1) (by omega)
   have hw:iv y.Op.Code=(2,M):=by
    unfold iv;rw[QZ (by omega),Q5 (by omega)]
   unfold kB;simp only[hw,Tk,Q4];exact⟨zu.2 hc,zu.2 ⟨by show (-32768:Int)<=_;omega,by show _<=(32767:Int);omega⟩⟩
  ·rw[QZ hjmp]
   refine⟨?_,y,rfl,rfl,rfl⟩;unfold kB;rw[Q4];refine⟨zu.2 hc,?_⟩;have a0:y.Op.Code=0∨(1<=y.Op.Code/\y.Op.Code<=4)∨((5<=y.Op.Code/\y.Op.Code<=9)∨y.Op.Code=17)∨(12<=y.Op.Code/\y.Op.Code<=15)∨y.Op.Code=16:=by omega
   rcases a0 with c | c | c | c | c
   ·have:=hi.lit c
    have hw:iv y.Op.Code=(4,M):=by unfold iv;rw[Q5 c]
    rw[hw];exact zu.2 ⟨by simp;omega,by simp;omega⟩
   ·have:=hi.var c.1 c.2
    have hw:iv y.Op.Code=(2,M):=by unfold iv;rw[QZ (by omega),Q5 (by omega)]
    rw[hw];exact zu.2 ⟨by simp;omega,by simp;omega⟩
   ·have:=hi.op c
    have hw:iv y.Op.Code=(0,I):=by unfold iv;rw[QZ (by omega),QZ (by omega),QZ (by omega),QZ (by omega)]
    rw[hw,this];rfl
   ·have:=hi.small c.1 c.2
    have hw:iv y.Op.Code=(1,I):=by unfold iv;rw[QZ (by omega),QZ (by omega),QZ (by omega),Q5 (by omega)]
    rw[hw];exact zu.2 ⟨by simp;omega,by simp;omega⟩
   ·have:=hi.ret c
    have hw:iv y.Op.Code=(2,I):=by unfold iv;rw[QZ (by omega),QZ (by omega),Q5 c]
    rw[hw];exact zu.2 ⟨by simp;omega,by simp;omega⟩
def pL (p:Q fv)(x:fL):Prop:=x.Item.Op.Code=13∨x.Item.Op.Code=15/\kM p x.Item.fH=0
theorem DR (l:Q fC)(x:fC)(n:Int):pO (l++[x]) n=l++[{ x with gK:=n-x.Start }]:=by
 unfold pO;simp
def pZ (l:Q fL):Q lY:=l.map fun x=>x.Item.Op
theorem GM (p:Q fv):∀(l:Q fL)(c:N)(ss:Q fC)(nm:N)(st:Int),(∀ x∈l,¬ pL p x)->
  l.foldl (mU p) ⟨c,ss++[⟨nm,st,c.size-st⟩]⟩=⟨c++nS (pZ l),ss++[⟨nm,st,(c++nS (pZ l)).size-st⟩]⟩
 | [],c,ss,nm,st,_=>by simp[pZ,nS,AG]
 | x::r,c,ss,nm,st,h=>by
  have hx:=h x (.head _);unfold pL at hx;rw[TC]
  have:mU p ⟨c,ss++[⟨nm,st,c.size-st⟩]⟩ x=⟨c++jR x.Item.Op,ss++[⟨nm,st,(c++jR x.Item.Op).size-st⟩]⟩:=by
   unfold mU;simp only[QZ hx,DR]
  rw[this,GM p r _ ss nm st (fun y hy=>h y (.tail _ hy))];simp only[pZ,RS,nS,R9]
theorem O5 (p:Q fv)(x:fL)(r:Q fL)(c:N)(ss:Q fC)(hx:pL p x)(ho:x.Offset=(c.size:Int))(h:∀ y∈r,¬ pL p y) :
  (x::r).foldl (mU p) ⟨c,ss⟩=⟨c++nS (pZ (x::r)),ss++[⟨mc p x.Item.fH,c.size,(nS (pZ (x::r))).size⟩]⟩:=by
 rw[TC];unfold pL at hx
 have:mU p ⟨c,ss⟩ x=⟨c++jR x.Item.Op,ss++[⟨mc p x.Item.fH,c.size,(c++jR x.Item.Op).size-c.size⟩]⟩:=by
  unfold mU;simp only[Q5 hx,DR,ho]
 rw[this,GM p r _ ss _ _ h];simp only[pZ,RS,nS,R9,RI];congr 3;congr 1;omega
theorem BG:∀(l:Q fP)(a:Int),0<=mh l a-a/\mh l a-a<=5*(l.length:Int)
 | [],a=>by simp[mh]
 | x::r,a=>by
  have h:=BG r (a+zL x.Op.Code);have h2:=F9 x.Op.Code;simp only[mh,Rc];omega
theorem EP:∀(l:Q lY),(∀ x∈l,kB x=M)->((nS l).size:Int)=(l.map fun x=>zL x.Code).sum
 | [],_=>rfl
 | x::r,h=>by
  simp only[nS,RI,RS,SV,Int.natCast_add];rw[JS (h x (.head _)),EP r (fun y hy=>h y (.tail _ hy))]
theorem GG:∀(l:Q fP)(a:Int),mh l a=a+(l.map fun x=>zL x.Op.Code).sum
 | [],a=>by simp[mh]
 | x::r,a=>by
  simp only[mh,RS,SV,GG r];omega
theorem Lg (l:Q fP)(a:Int):(pZ (lJ l a)).map (fun x=>zL x.Code)=l.map fun x=>zL x.Op.Code:=by
 apply UG;intro j;unfold pZ lJ;simp only[Um,xB,Option.map_map];cases l[j]? with
 | none=>rfl
 | some x=>
  simp only[Tm,Function.comp];unfold mG;split <;> rfl
structure jC (p:Q fv)(f:Nat)(l:Q fP):Prop where
 ok:iA p l
 pos:0<l.length
 len:l.length<=951
 line:∃ x g,l[0]?=Z x/\(zp p)[f]?=Z g/\x.fH=g
def pX (p:Q fv)(f:Nat)(l:Q fP)(a:Int):lG:=⟨mc p ((zp p).getD f 0),pZ (lJ l a)⟩
theorem BM {x:fL} (h:(lJ l a)[j]?=Z x):∃ y,l[j]?=Z y/\x=mG (l5 l a) j y:=by
 unfold lJ at h;rw[xB,Rk] at h;cases hy:l[j]? with
 | none=>rw[hy] at h;cases h
 | some y=>
  rw[hy] at h;simp only[Tm,Rv] at h;exact⟨y,rfl,h.symm⟩
theorem wB (st:Q Int)(j:Nat)(y:fP):(mG st j y).Item.fH=y.fH/\(mG st j y).Item.Op.Code=y.Op.Code:=by
 unfold mG;split <;> exact⟨rfl,rfl⟩
theorem jC.first {p:Q fv}{f:Nat}{l:Q fP}(h:jC p f l)(a:Int){j:Nat}{x:fL}(hx:(lJ l a)[j]?=Z x):j=0↔pL p x:=by
 obtain⟨y,hy,rfl⟩:=BM hx;have:=(h.ok j y hy).first;unfold pL;rw[(wB _ _ _).1,(wB _ _ _).2];exact this
theorem jC.iU (h:jC p f l)(a:Int):(∀ x∈(pX p f l a).ops,kB x=M)/\0<(pX p f l a).ops.length/\((pX p f l a).code.size:Int)=mh l a-a:=by
 have h1:∀ x∈(pX p f l a).ops,kB x=M:=by
  intro x hx;unfold pX pZ at hx;simp only[TN] at hx;obtain⟨y,hy,rfl⟩:=hx;obtain⟨j,hj⟩:=Ti hy;exact(Of h.ok (by have:=h.len;omega) hj).1
 refine⟨h1,?_,?_⟩
 ·unfold pX pZ lJ
  simp only[Uc,BS];exact h.pos
 ·unfold lG.code
  rw[EP _ h1,GG];show (pZ (lJ l a) |>.map fun x=>zL x.Code).sum=_;rw[Lg];omega
theorem jC.wk (h:jC p f l)(c:N)(ss:Q fC):(lJ l c.size).foldl (mU p) ⟨c,ss⟩=⟨c++(pX p f l c.size).code,ss++[⟨(pX p f l c.size).name,c.size,(pX p f l c.size).code.size⟩]⟩:=by
 obtain⟨x,g,hx,hg,hl⟩:=h.line;have a0:∀(j:Nat) (y:fL),(lJ l c.size)[j]?=Z y->(j=0↔pL p y):=fun j y hy=>h.first c.size hy
 have h0:(lJ l c.size)[0]?=Z (mG (l5 l c.size) 0 x):=by
  unfold lJ;rw[xB,Rk,hx];rfl
 unfold lG.code pX;cases hp:lJ l c.size with
 | nil=>rw[hp] at h0;cases h0
 | cons u r=>
  rw[hp] at h0 a0;simp only[RA,Rv] at h0
  have ho:u.Offset=(c.size:Int):=by
   rw[h0];show (l5 l c.size).getD 0 0=_;cases l <;> rfl
  have a1:u.Item.fH=g:=by rw[h0,(wB _ _ _).1];exact hl
  rw[O5 p u r c ss ((a0 0 u rfl).1 rfl) ho (fun y hy hf=>by
   obtain⟨j,hj⟩:=Ti hy;have:=(a0 (j+1) y (by rw[Sw];exact hj)).2 hf
   omega)]
  rw[a1,RG,hg];rfl
def lL (p:Q fv)(b:fV)(image:Int):Nat->Nat->Int->Q lG
 | 0,_,_=>[]
 | n+1,f,a=>if ni b f image=M then pX p f (ki p b f) a::lL p b image n (f+1) (mh (ki p b f) a) else lL p b image n (f+1) a
theorem CQ {p:Q fv}{b:fV}{image:Int}(hF:∀ f,f<(zp p).length->jC p f (ki p b f)):∀(n f:Nat)(c:N)(ss:Q fC),f+n<=(zp p).length->
  (mR p b image n f c.size).foldl (mU p) ⟨c,ss⟩=⟨c++ow (lL p b image n f c.size),ss++pE (lL p b image n f c.size) c.size⟩
 | 0,f,c,ss,_=>by simp[mR,lL,ow,pE,AG]
 | n+1,f,c,ss,h=>by
  simp only[mR,lL];split
  ·have hi:=hF f (by omega)
   have hs:=(hi.iU (c.size:Int)).2.2;rw[List.foldl_append,hi.wk]
   have he:mh (ki p b f) (c.size:Int)=((c++(pX p f (ki p b f) c.size).code).size:Int):=by
    rw[RI];omega
   rw[he,CQ hF n (f+1) _ _ (by omega)];simp only[ow,pE,R9,Rw,List.singleton_append,RI]
  ·exact CQ hF n (f+1) c ss (by omega)
theorem Au {p:Q fv}{b:fV}{image:Int}:∀(n f:Nat)(a:Int),∀ x∈lL p b image n f a,∃ g a',f<=g/\g<f+n/\ni b g image=M/\x=pX p g (ki p b g) a'
 | 0,f,a,x,h=>by cases h
 | n+1,f,a,x,h=>by
  simp only[lL] at h;split at h
  ·rename_i hi
   rcases Rp.1 h with rfl | h
   ·exact⟨f,a,Q8 _,by omega,hi,rfl⟩
   ·obtain⟨g,a',h1,h2,h3,h4⟩:=Au n (f+1) _ x h
    exact⟨g,a',by omega,by omega,h3,h4⟩
  ·obtain⟨g,a',h1,h2,h3,h4⟩:=Au n (f+1) _ x h
   exact⟨g,a',by omega,by omega,h3,h4⟩
theorem CU {p:Q fv}{b:fV}{image:Int}:∀(n f:Nat)(a:Int)(g:Nat),f<=g->g<f+n->ni b g image=M->∃ x∈lL p b image n f a,x.name=mc p ((zp p).getD g 0)
 | 0,f,a,g,h1,h2,_=>by omega
 | n+1,f,a,g,h1,h2,hi=>by
  simp only[lL];by_cases hg:g=f
  ·subst hg
   rw[Q5 hi];exact⟨_,.head _,rfl⟩
  ·split
   ·obtain⟨x,hx,hn⟩:=CU n (f+1) _ g (by omega) (by omega) hi
    exact⟨x,.tail _ hx,hn⟩
   ·exact CU n (f+1) _ g (by omega) (by omega) hi
theorem Ca {p:Q fv}{b:fV}{image:Int}(hd:∀ f g,f<g->g<(zp p).length->mc p ((zp p).getD f 0)≠mc p ((zp p).getD g 0)):∀(n f:Nat)(a:Int),f+n<=(zp p).length->((lL p b image n f a).map lG.name).Nodup
 | 0,f,a,_=>by simp[lL]
 | n+1,f,a,h=>by
  simp only[lL];split
  ·rw[RS,TA]
   refine⟨fun hm=>?_,Ca hd n (f+1) _ (by omega)⟩;simp only[TN] at hm;obtain⟨x,hx,hn⟩:=hm;obtain⟨g,a',h1,h2,_,rfl⟩:=Au n (f+1) _ x hx;exact hd f g (by omega) (by omega) hn.symm
  ·exact Ca hd n (f+1) _ (by omega)
theorem Gk:∀(l:Q lG)(QK:Nat),(∀ b∈l,b.code.size<=QK)->(ow l).size<=QK*l.length
 | [],QK,_=>by simp[ow,Ok]
 | b::r,QK,h=>by
  have h1:=h b (.head _);have h2:=Gk r QK (fun c hc=>h c (.tail _ hc));simp only[ow,RI,Rc,Nat.mul_succ];omega
theorem Cn:∀(l:Q fv)(i:Nat),∀ x∈lf l i,(i:Int)<=x
 | [],_,x,h=>by cases h
 | y::r,i,x,h=>by
  unfold lf at h;split at h
  ·rcases Rp.1 h with rfl | h
   ·exact SK _
   ·have:=Cn r (i+1) x h;omega
  ·have:=Cn r (i+1) x h;omega
theorem CN:∀(l:Q fv)(i:Nat),(lf l i).Pairwise (· < ·)
 | [],_=>.nil
 | y::r,i=>by
  unfold lf;split
  ·refine List.pairwise_cons.2 ⟨fun x hx=>?_,CN r (i+1)⟩
   have:=Cn r (i+1) x hx;omega
  ·exact CN r (i+1)
theorem wK {i:Nat} {x:fv} (h:p[i]?=Z x):mc p (i:Int)=x.Name:=by
 unfold mc;rw[Ra,h];rfl
theorem Ni (hp:zv p=M)(f g:Nat)(h:f<g)(hg:g<(zp p).length):mc p ((zp p).getD f 0)≠mc p ((zp p).getD g 0):=by
 have hF:=qj hp;have hf:f<(zp p).length:=by omega
 have e1:(zp p)[f]?=Z (zp p)[f]:=QW hf;have e2:(zp p)[g]?=Z (zp p)[g]:=QW hg;have a0:=(List.pairwise_iff_getElem.1 (CN p 0)) f g hf hg h;obtain⟨i,hi,x,hx,x0⟩:=vH e1;obtain⟨j,hj,y,hy,y0⟩:=vH e2;rw[RG,RG,e1,e2];simp only[Sq];rw[hi,hj,wK hx,wK hy];intro hn;have h1:=hF.own i x hx x0;have h2:=hF.own j y hy y0;rw[hn] at h1;have a1:(zp p)[f]<(zp p)[g]:=a0;omega
theorem Kv (hp:zv p=M){f:Nat}(hf:f<(zp p).length):kU (mc p ((zp p).getD f 0))=M:=by
 have hF:=qj hp;have e1:(zp p)[f]?=Z (zp p)[f]:=QW hf;obtain⟨i,hi,x,hx,x0⟩:=vH e1;rw[RG,e1];simp only[Sq];rw[hi,wK hx];exact hF.c.name i x hx x0
theorem Is (hp:zv p=M)(hS:ov p)(hb:jM b=M)(f:Nat)(hf:f<(zp p).length):jC p f (ki p b f):=by
 obtain⟨h1,h2,_⟩:=BF hp hb hf;obtain⟨h3,h4⟩:=Kf hp hS hb hf;exact⟨h1,h2,h3,h4⟩
def tw (p:Q fv)(b:fV)(image:Int):Q lG:=lL p b image (zp p).length 0 0
theorem Ed (hp:zv p=M)(hS:ov p)(hb:jM b=M)(hi:fT image 0 1=M):jq p b image=Ds (tw p b image):=by
 unfold jq jV;rw[Q5 ⟨hp,hb,hi⟩];have h:=CQ (image:=image) (Is hp hS hb) (zp p).length 0 emp [] (by omega);rw[Di] at h;exact h
theorem DB {p:Q fv}{b:fV}{image:Int}(hs:b.Split=M):∀(n f:Nat)(a:Int),(lL p b image n f a).length<=(n+1) / 2
 | 0,f,a=>by simp[lL]
 | 1,f,a=>by
  simp only[lL];split <;> simp[lL]
 | n+2,f,a=>by
  have a0:∀ g:Int,ni b g image=decide (g % 2=image):=fun g=>by unfold ni;rw[Q5 hs]
  simp only[lL,a0,Rg];have h1:=fun a=>DB hs n (f+1+1) a (p:=p) (image:=image);split
  ·rw[QZ (by omega)]
   have:=h1 (mh (ki p b f) a);simp only[Rc];omega
  ·split
   ·have:=h1 (mh (ki p b (f+1)) a)
    simp only[Rc];omega
   ·have:=h1 a
    omega
theorem CV {p:Q fv}{b:fV}{image:Int}:∀(n f:Nat)(a:Int),(lL p b image n f a).length<=n
 | 0,f,a=>by simp[lL]
 | n+1,f,a=>by
  simp only[lL];split
  ·have:=CV n (f+1) (mh (ki p b f) a) (p:=p) (b:=b) (image:=image)
   simp only[Rc];omega
  ·have:=CV n (f+1) a (p:=p) (b:=b) (image:=image)
   omega
theorem Gi {p:Q fv}{b:fV}(hs:b.Split=I):∀(n f:Nat)(a:Int),lL p b 1 n f a = []
 | 0,f,a=>rfl
 | n+1,f,a=>by
  simp only[lL];rw[QZ (by unfold ni;rw[hs];simp),Gi hs n]
theorem Fg (hp:zv p=M)(hS:ov p)(hb:jM b=M):(∀ x∈tw p b image,nz x/\x.code.size<=4755)/\((tw p b image).map lG.name).Nodup:=by
 refine⟨fun x hx=>?_,Ca (Ni hp) _ _ _ (by omega)⟩;obtain⟨g,a,_,h2,_,rfl⟩:=Au _ _ _ x hx;have hI:=Is hp hS hb g (by omega);obtain⟨h3,h4,h5⟩:=hI.iU a;have h6:=BG (ki p b g) a;have h7:=hI.len;exact⟨⟨Kv hp (by omega),h3,h4⟩,by omega⟩
theorem wC (hp:zv p=M)(hS:ov p)(hb:jM b=M)(hi:fT image 0 1=M):jr (jq p b image)=M/\(jq p b image).Code.size<=4755*(tw p b image).length:=by
 obtain⟨h1,h2⟩:=Fg (image:=image) hp hS hb;have hz:=Gk (tw p b image) 4755 (fun x hx=>(h1 x hx).2);have hl:(tw p b image).length<=(zp p).length:=CV _ _ _;have h6:=(qj hp).mj;rw[Ed hp hS hb hi];exact⟨JX (fun x hx=>(h1 x hx).1) h2 (by omega),hz⟩
def qv (i:gu)(base:Int)(nm:N):Q Int:=(i.fm.filter fun x=>decide (x.Name=nm)).map fun x=>base+x.Start
def qq (p:Q fv)(b:fV)(i0 i1:gu)(b0 b1:Int):Nat->Nat->Q Int
 | 0,_=>[]
 | n+1,f=>(if b.Split=M/\f % 2=1 then qv i1 b1 (mc p ((zp p).getD f 0)) else qv i0 b0 (mc p ((zp p).getD f 0)))++qq p b i0 i1 b0 b1 n (f+1)
def zn (p:Q fv)(b:fV)(b0 b1:Int):gv:=
 ⟨[jq p b 0,jq p b 1],[b0,b1],qq p b (jq p b 0) (jq p b 1) b0 b1 (zp p).length 0⟩
theorem GH:∀(l:Q lG)(a:Nat)(nm:N),(l.map lG.name).Nodup->(∃ x∈l,x.name=nm)->((pE l a).filter fun x=>decide (x.Name=nm)).length=1
 | [],a,nm,_,h=>by obtain⟨x,hx,_⟩:=h;cases hx
 | b::r,a,nm,hd,h=>by
  simp only[RS,TA] at hd;by_cases hb:b.name=nm
  ·have a0:((pE r (a+b.code.size)).filter fun x=>decide (x.Name=nm)) = []:=by
    rw[Un];intro s hs he;simp only[Rg] at he;refine hd.1 ?_;rw[hb,<-he]
    have a1:∀(l:Q lG) (a:Nat),∀ s∈pE l a,s.Name∈l.map lG.name:=by
     intro l;induction l with
     | nil=>intro a s hs;cases hs
     | cons c l ih=>
      intro a s hs;simp only[pE] at hs;rcases Rp.1 hs with rfl | hs
      ·simp
      ·rw[RS];exact .tail _ (ih _ s hs)
    exact a1 r _ s hs
   simp only[pE];rw[List.filter_cons_of_pos (by simpa using hb),a0];rfl
  ·simp only[pE]
   rw[List.filter_cons_of_neg (by simpa using hb)];refine GH r _ nm hd.2 ?_;obtain⟨x,hx,hn⟩:=h;rcases Rp.1 hx with rfl | hx
   ·exact absurd hn hb
   ·exact⟨x,hx,hn⟩
theorem En {i:gu} {base:Int} {nm:N} {e:Int} (h:e∈qv i base nm):∃ x∈i.fm,base+x.Start=e:=by
 unfold qv at h;simp only[TN,List.mem_filter] at h;obtain⟨x,⟨hx,_⟩,he⟩:=h;exact⟨x,hx,he⟩
theorem DM {p:Q fv}{b:fV}{i0 i1:gu}{b0 b1:Int}:∀(n f:Nat),∀ e∈qq p b i0 i1 b0 b1 n f,(∃ x∈i0.fm,b0+x.Start=e)∨∃ x∈i1.fm,b1+x.Start=e
 | 0,f,e,h=>by cases h
 | n+1,f,e,h=>by
  simp only[qq] at h;rcases Q7.1 h with h | h
  ·split at h
   ·exact .inr (En h)
   ·exact .inl (En h)
  ·exact DM n (f+1) e h
theorem yG {p:Q fv}{b:fV}(hp:zv p=M)(hS:ov p)(hb:jM b=M){b0 b1:Int}:∀(n f:Nat),f+n<=(zp p).length->(qq p b (jq p b 0) (jq p b 1) b0 b1 n f).length=n
 | 0,f,_=>rfl
 | n+1,f,h=>by
  have a1:∀(a0 base:Int),fT a0 0 1=M->ni b f a0=M->(qv (jq p b a0) base (mc p ((zp p).getD f 0))).length=1:=by
   intro a0 base hi a2;unfold qv;rw[Uc,Ed hp hS hb hi];exact GH _ _ _ (Fg hp hS hb).2 (CU _ _ _ f (QX _) (by omega) a2)
  simp only[qq,QR];rw[yG hp hS hb n (f+1) (by omega)];split
  ·rename_i hc
   rw[a1 1 b1 rfl (by unfold ni;rw[Q5 hc.1];simp only[Rg];omega)];omega
  ·rename_i hc
   rw[a1 0 b0 rfl (by
    unfold ni;cases hsp:b.Split with
    | true=>
     have:¬ f % 2=1:=fun h=>hc ⟨hsp,h⟩;simp only[Tk,Rg];omega
    | false=>simp)]
   omega
theorem Dz {b0 b1:Int} (hp:zv p=M)(hS:ov p)(h4:(zp p).length<=4)(hb:jM b=M)(h0:1<=b0/\b0<=9000)(h1:20000<=b1/\b1<=1000000):zU (zn p b b0 b1)=M:=by
 obtain⟨k0,s0⟩:=wC (image:=0) hp hS hb rfl;obtain⟨k1,s1⟩:=wC (image:=1) hp hS hb rfl
 have a2:1<=(zp p).length:=by
  obtain⟨x,hx,x0,_⟩:=(qj hp).head;unfold zp;cases hpp:p with
  | nil=>rw[hpp] at hx;cases hx
  | cons y r=>
   rw[hpp] at hx;simp only[RA,Rv] at hx;subst hx;simp[lf,x0]
 have a1:AQ (zn p b b0 b1)=I:=by
  unfold AQ zn;simp only[TT,RW];cases hsp:b.Split with
  | true=>
   have:(tw p b 0).length<=((zp p).length+1) / 2:=DB hsp _ _ _;right;omega
  | false=>
   have:tw p b 1 = []:=Gi hsp _ _ _;rw[this] at s1;simp only[Ru,Nat.mul_zero] at s1;left;left;right;omega
 unfold zU;rw[a1];have a0:=yG hp hS hb (b0:=b0) (b1:=b1) (zp p).length 0 (by omega);simp only[Q4];refine⟨⟨⟨⟨⟨⟨rfl,rfl⟩,?_⟩,?_⟩,?_⟩,rfl⟩,?_⟩
 ·show fT (((qq p b (jq p b 0) (jq p b 1) b0 b1 (zp p).length 0).length:Nat):Int) 1 6=M
  rw[a0];exact zu.2 ⟨by omega,by omega⟩
 ·simp[zn,k0,k1]
 ·simp only[zn,List.all_cons,List.all_nil,UX,Q4]
  exact⟨zu.2 ⟨by omega,by omega⟩,zu.2 ⟨by omega,by omega⟩⟩
 ·rw[SG]
  intro e he;unfold kG zn;simp only[List.zip_cons_cons,List.zip_nil_right,List.any_cons,List.any_nil,Bool.or_false,Uu,SR,Rg];exact DM _ _ e he
structure qK (p:Q fv)(x:fL):Prop where
 line:0<=x.Item.fH/\x.Item.fH<p.length
 chain:x.Item.fB.length<=3
 off:0<=x.Offset/\x.Offset<=100000
theorem JD (st:Q Int)(j:Nat)(y:fP):(mG st j y).Item.fB=y.fB:=by
 unfold mG;split <;> rfl
theorem Lj (hI:iA p hJ)(ha:0<=a)(hb:a+5*(hJ.length:Int)<=100000):∀ x∈lJ hJ a,qK p x:=by
 intro x hx;obtain⟨j,hj⟩:=Ti hx;obtain⟨y,hy,rfl⟩:=BM hj;have a0:=(QM.1 hy).1;have h:=hI j y hy;have h1:=CW (l:=hJ) (a:=a) (j:=j) (by omega);refine⟨by rw[(wB _ _ _).1];exact h.line,by rw[JD];exact h.chain.1,?_⟩;show 0<=(l5 hJ a).getD j 0/\(l5 hJ a).getD j 0<=100000;omega
theorem JE (hI:iA p hJ):∀ x,(lJ hJ a)[0]?=Z x->pL p x:=by
 intro x hx;obtain⟨y,hy,rfl⟩:=BM hx;have:=(hI 0 y hy).first.1 rfl;unfold pL;rw[(wB _ _ _).1,(wB _ _ _).2];exact this
theorem BR {p:Q fv}{b:fV}{image:Int}(hp:zv p=M)(hb:jM b=M):∀(n f:Nat)(a:Int),f+n<=(zp p).length->0<=a->a<=12000*(f:Int)->(∀ x∈mR p b image n f a,qK p x)/\(mR p b image n f a).length<=2400*n/\∀ x,(mR p b image n f a)[0]?=Z x->pL p x
 | 0,f,a,_,_,_=>⟨fun x h=>(by cases h),by simp[mR],fun x h=>by simp[mR] at h⟩
 | n+1,f,a,hf,ha,hb1=>by
  have a0:=(qj hp).mj;obtain⟨h1,h2,h3⟩:=BF (f:=f) hp hb (by omega);have he:=BG (ki p b f) a;simp only[mR];split
  ·obtain⟨g1,g2,_⟩:=BR (image:=image) hp hb n (f+1) (mh (ki p b f) a) (by omega) (by omega) (by omega)
   have hl:(lJ (ki p b f) a).length=(ki p b f).length:=by unfold lJ;rw[BS]
   refine⟨fun x hx=>?_,by rw[QR];omega,fun x hx=>?_⟩
   ·rcases Q7.1 hx with hx | hx
    ·exact Lj h1 ha (by omega) x hx
    ·exact g1 x hx
   ·rw[RY (by omega)] at hx
    exact JE h1 x hx
  ·obtain⟨g1,g2,g3⟩:=BR (image:=image) hp hb n (f+1) a (by omega) ha (by omega)
   exact⟨g1,by omega,g3⟩
theorem BT (p:Q fv)(b:fV)(image:Int):(∀ x∈jV p b image,qK p x)/\(jV p b image).length<=14400/\∀ x,(jV p b image)[0]?=Z x->pL p x:=by
 unfold jV;split
 ·rename_i h
  obtain⟨h1,h2,h3⟩:=BR (image:=image) h.1 h.2.1 (zp p).length 0 0 (by omega) (by omega) (by omega);have a0:=(qj h.1).mj;exact⟨h1,by omega,h3⟩
 ·exact⟨fun x h=>(by cases h),QX _,fun x h=>by simp at h⟩
def lx (p:Q fv)(xs:Q fL)(k:Nat):gu:=(xs.take k).foldl (mU p) ⟨emp,[]⟩
theorem Co {xs:Q fL} {k:Nat} {x:fL} (h:xs[k]?=Z x):lx p xs (k+1)=mU p (lx p xs k) x:=by
 unfold lx;rw[RH,h];simp
theorem GF (x:lY):(jR x).size<=5:=by
 unfold jR;split
 ·have:=rr x.Code
  show ((pB x.Code::pM x.Arg (iv x.Code).1 0).toArray).size<=_;simp[BL];omega
 ·exact QX _
theorem BA (l:Q fC)(n:Int):(pO l n).length=l.length:=by
 unfold pO;cases h:l.getLast? with
 | none=>rfl
 | some x=>
  have:l≠[]:=by intro e;subst e;simp at h
  have hl:0<l.length:=List.length_pos_iff.2 this;simp;omega
theorem AK {p:Q fv}{xs:Q fL}(hf:∀ x,xs[0]?=Z x->pL p x):∀ k,k<=xs.length->(lx p xs k).Code.size<=5*k/\(lx p xs k).fm.length<=k/\(0<k->0<(lx p xs k).fm.length)
 | 0,_=>⟨QX _,QX _,fun h=>by omega⟩
 | k+1,h=>by
  obtain⟨h1,h2,h3⟩:=AK hf k (by omega);have hx:xs[k]?=Z xs[k]:=QW (by omega);rw[Co hx];have he:=GF xs[k].Item.Op;unfold mU;simp only[BA];refine⟨by rw[RI];omega,?_,fun _=>?_⟩
  ·split
   ·rw[QR,RD];omega
   ·omega
  ·split
   ·rw[QR,RD];omega
   ·rename_i hn
    cases k with
    | zero=>exact absurd (hf _ hx) hn
    | succ k=>exact h3 (by omega)
end Go.Proofs.YthgbglbaemelhaaGreat
