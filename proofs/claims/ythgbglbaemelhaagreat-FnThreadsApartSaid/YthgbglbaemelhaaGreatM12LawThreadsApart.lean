/-
  PART.
-/
import Derived.Test.YthgbglbaemelhaaGreatM11LawThreadsApart
set_option linter.unusedVariables false
set_option linter.unusedSimpArgs false
set_option maxRecDepth 100000
set_option maxHeartbeats 8000000
namespace Go.Proofs.YthgbglbaemelhaaGreat
open Value renaming slice->G,int->J,bool->H,string->V
open IntKind renaming i64->Z,wrap->Rg
open Option renaming none->C,some->D,getD_some->Te,map_some->TK
open Obj renaming cells->F
open Bool renaming false->I,true->M
open Go renaming World->U,results->Rv,Calls->RD,Addr->RJ,TypeId->R5,yielded->Th
open _root_.Int renaming toNat_natCast->Ry
open List renaming length_cons->RA,length_nil->RR,length_singleton->R4,take_zero->SH,sum_cons->Tu,foldl_cons->TY
open RowKit renaming intOf->RS
open _root_.Nat renaming add_zero->Sr
open Region renaming wanted->RV,ready->Sn,noSelect->TZ,free->Wu
open Tryz
open Go.RowKit
variable {A A0 A1 A2:X RJ}{L S:Q Nat}{W w:U}{a:Int}{ars:Q Int}{c c0 c1 c2 gb i k n:Nat}{e:R5}{ia:Q fM}{names vars xs:Q N}{o out p:Q fw}{s:N}{x:fw}
structure qY (p:Q fw)(x:fK):Prop where
 line:0<=x.lw.fG/\x.lw.fG<p.length
 io:x.lw.fB.length<=3
 off:0<=x.us/\x.us<=100000
theorem Ki (st:Q Int)(j:Nat)(y:fM):(mN st j y).lw.fB=y.fB:=by
 unfold mN;split <;> rfl
theorem Ls (hI:iB p ia)(ha:0<=a)(hb:a+5*(ia.length:Int)<=100000):∀ x∈lQ ia a,qY p x:=by
 intro x hx;obtain⟨j,hj⟩:=TG hx;obtain⟨y,hy,rfl⟩:=Cu hj;have a0:=(Rd.1 hy).1;have h:=hI j y hy;have h1:=Dg (l:=ia) (a:=a) (j:=j) K9;refine⟨by rw[(xd _ _ _).1];exact h.line,by rw[Ki];exact h.io.1,?_⟩;show 0<=(mr ia a).getD j 0/\(mr ia a).getD j 0<=100000;omega
theorem Kj (hI:iB p ia):∀ x,(lQ ia a)[0]?=D x->qk p x:=by
 intro x hx;obtain⟨y,hy,rfl⟩:=Cu hx;have:=(hI 0 y hy).first.1 rfl;unfold qk;rw[(xd _ _ _).1,(xd _ _ _).2];exact this
theorem Ck {p:Q fw}{b:fY}{image:Int}(hp:zx p=M)(hb:jP b=M):∀(n f:Nat)(a:Int),f+n<=(zq p).length->0<=a->a<=12000*(f:Int)->(∀ x∈mX p b image n f a,qY p x)/\(mX p b image n f a).length<=2400*n/\∀ x,(mX p b image n f a)[0]?=D x->qk p x
 | 0,f,a,_,_,_=>⟨fun x h=>(by cases h),by simp[mX],fun x h=>by simp[mX] at h⟩
 | n+1,f,a,hf,ha,hb1=>by
  have a0:=(qB hp).my;obtain⟨h1,h2,h3⟩:=Cc (f:=f) hp hb K9;have he:=Cd (ki p b f) a;simp only[mX];split
  ·obtain⟨g1,g2,_⟩:=Ck (image:=image) hp hb n (f+1) (mw (ki p b f) a) K9 K9 K9
   have hl:(lQ (ki p b f) a).length=(ki p b f).length:=by unfold lQ;rw[BY]
   refine⟨fun x hx=>?_,by rw[Rh];omega,fun x hx=>?_⟩
   ·rcases Rr.1 hx with hx | hx
    ·exact Ls h1 ha K9 x hx
    ·exact g1 x hx
   ·rw[SK K9] at hx
    exact Kj h1 x hx
  ·obtain⟨g1,g2,g3⟩:=Ck (image:=image) hp hb n (f+1) a K9 ha K9
   exact⟨g1,K9,g3⟩
theorem BZ (p:Q fw)(b:fY)(image:Int):(∀ x∈jZ p b image,qY p x)/\(jZ p b image).length<=14400/\∀ x,(jZ p b image)[0]?=D x->qk p x:=by
 unfold jZ;split
 ·rename_i h
  obtain⟨h1,h2,h3⟩:=Ck (image:=image) h.1 h.2.1 (zq p).length 0 0 K9 K9 K9;have a0:=(qB h.1).my;exact⟨h1,K9,h3⟩
 ·exact⟨fun x h=>(by cases h),Rl _,fun x h=>by simp at h⟩
def lh (p:Q fw)(xs:Q fK)(k:Nat):gv:=(xs.take k).foldl (nc p) ⟨Wy,[]⟩
theorem CS {xs:Q fK} {x:fK} (h:xs[k]?=D x):lh p xs (k+1)=nc p (lh p xs k) x:=by
 unfold lh;rw[R8,h];simp
theorem Ha (x:me):(jR x).size<=5:=by
 unfold jR;split
 ·have:=rI x.Code
  show ((pP x.Code::qm x.Wv (iy x.Code).1 0).toArray).size<=_;simp[Ct];omega
 ·exact Rl _
theorem Cw (l:Q fC)(n:Int):(qp l n).length=l.length:=by
 unfold qp;cases h:l.getLast? with
 | none=>rfl
 | some x=>
  have:l≠[]:=by intro e;subst e;simp at h
  have hl:0<l.length:=List.length_pos_iff.2 this;simp;omega
theorem Br {p:Q fw}{xs:Q fK}(hf:∀ x,xs[0]?=D x->qk p x):∀ k,k<=xs.length->(lh p xs k).Code.size<=5*k/\(lh p xs k).fm.length<=k/\(0<k->0<(lh p xs k).fm.length)
 | 0,_=>⟨Rl _,Rl _,fun h=>by omega⟩
 | k+1,h=>by
  obtain⟨h1,h2,h3⟩:=Br hf k (by omega);have hx:xs[k]?=D xs[k]:=Rn (by omega);rw[CS hx];have he:=Ha xs[k].lw.Op;unfold nc;simp only[Cw];refine⟨by rw[Sg];omega,?_,fun _=>?_⟩
  ·split
   ·rw[Rh,R4];omega
   ·omega
  ·split
   ·rw[Rh,R4];omega
   ·rename_i hn
    cases k with
    | zero=>exact absurd (hf _ hx) hn
    | succ k=>exact h3 (by omega)
def xE:Q fw:=[⟨0,tI,[],[]⟩,⟨2,Wy,[],[⟨0,1,Wy⟩]⟩,⟨6,Wy,[],[⟨0,1,Wy⟩]⟩,⟨7,Wy,[],[]⟩]
theorem P8:zx xE=M:=qo
theorem K5 (l:Q fC)(n:Int):(qp l n).length=l.length:=by
 unfold qp;cases h:l.getLast? with
 | none=>rfl
 | some x=>
  have a0:l≠[]:=by intro he;subst he;simp at h
  have:=List.length_pos_iff.2 a0;simp only[Rh,List.length_dropLast,R4];omega
theorem Ed {P:N->Prop} {l:Q fC} {n:Int} (h:∀ x∈l,P x.pu):∀ x∈qp l n,P x.pu:=by
 unfold qp;cases hl:l.getLast? with
 | none=>exact h
 | some y=>
  intro x hx;simp only[Rr,Rc] at hx;rcases hx with hx | rfl
  ·exact h x (List.dropLast_subset l hx)
  ·exact h y (List.mem_of_getLast? hl)
theorem Et {p:Q fw}{P:N->Prop}(hP:∀ k:Int,P (mj p k)):∀(xs:Q fK)(i:gv),(∀ x∈i.fm,P x.pu)->(xs.foldl (nc p) i).fm.length<=i.fm.length+xs.length/\∀ x∈(xs.foldl (nc p) i).fm,P x.pu
 | [],i,h=>⟨Ru _,h⟩
 | x::r,i,h=>by
  have h1:(nc p i x).fm.length<=i.fm.length+1/\∀ y∈(nc p i x).fm,P y.pu:=by
   unfold nc;simp only;rw[K5];split
   ·refine⟨II,Ed fun y hy=>?_⟩
    rcases Rr.1 hy with hy | hy
    ·exact h y hy
    ·rw[Rc.1 hy];exact hP _
   ·exact⟨K9,Ed h⟩
  have h2:=Et hP r (nc p i x) h1.2;rw[TY,RA];exact⟨K9,h2.2⟩
theorem Ge (hp:zx p=M)(k:Int):(mj p k).size<=8:=by
 unfold mj;cases h:p[k.toNat]? with
 | none=>exact Rl _
 | some x=>
  have h1:=(qB hp).line k.toNat x h;unfold oC at h1;simp only[Rq] at h1;have h2:=h1.2.1;unfold wJ at h2;simp only[TK,Te];split at h2
  ·exact CY h2
  ·rw[TJ h2];exact Rl _
theorem Hv:∀(l:Q fC),(∀ x∈l,x.pu.size<=8)->lU l<=32*l.length
 | [],_=>Ru _
 | x::l,h=>by
  have h1:=Hv l (fun y hy=>h y (SV _ hy));have h2:=h x TA;simp only[lU,Sz,Tu,RA] at h1 |-;omega
theorem Eh:∀(l:Q fK)(out:Q gK),(l.foldl qj out).length<=out.length+l.length
 | [],_=>Ru _
 | x::r,out=>by
  have h1:(qj out x).length<=out.length+1:=by
   unfold qj;simp only;split
   ·simp
   ·split
    ·simp only[Rh,List.length_dropLast,R4];omega
    ·simp
  have h2:=Eh r (qj out x);rw[TY,RA];omega
theorem K2 (l:Q fK):(oX l).length<=l.length:=by
 unfold oX;split
 ·have:=Eh l []
  simpa using this
 ·exact Rl _
theorem EI:∀(l:Q fK)(q:X fM),(ry q l).length<=l.length
 | [],_=>Ru _
 | x::r,q=>by
  have h:=EI r (D x.lw);rw[RA];cases q with
  | none=>simp only[ry,Rh,R4];omega
  | some y=>
   simp only[ry,Rh];split
   ·simp only[RR];omega
   ·simp only[R4];omega
theorem Gu {α β:Type}{f:α->Q β}{Ra:Nat}(h:∀ a,(f a).length<=Ra):∀ l:Q α,(l.flatMap f).length<=l.length*Ra
 | []=>II
 | a::l=>by
  have h1:=h a;have h2:=Gu h l;rw[List.flatMap_cons,Rh,RA,Vc];omega
theorem BT (p:Q fw)(level:Nat):∀(n:Nat)(l:Q fK),(nX p level n l).length<=n
 | 0,_=>Ru _
 | n+1,[]=>Rl _
 | n+1,x::r=>by
  unfold nX;split
  ·simp only[RA]
   have:=BT p level n (r.drop (r.takeWhile (pJ p level x.lw.fB (kR p x.lw level))).length);omega
  ·have:=BT p level n r
   omega
theorem E9 {Q4:Nat}:∀(xs:Q fK)(m:Nat),m<=Q4->(∀ x∈xs,x.lw.fB.length<=Q4)->xs.foldl (fun n x=>max n x.lw.fB.length) m<=Q4
 | [],m,h,_=>h
 | x::r,m,h,hx=>E9 r _ (Nat.max_le.2 ⟨h,hx x (.head _)⟩) (fun y hy=>hx y (.tail _ hy))
theorem JQ {xs:Q fK} (hc:∀ x∈xs,x.lw.fB.length<=3):(mh p xs).length<=3*xs.length:=by
 unfold mh;split
 ·have h1:=Gu (f:=fun level=>nX p level xs.length xs) (Ra:=xs.length) (fun a=>BT p a _ _) (List.range (tB xs))
  have h2:tB xs<=3:=E9 xs 0 K9 hc;rw[List.length_range] at h1;have h3:tB xs*xs.length<=3*xs.length:=Tb _ h2;omega
 ·exact Rl _
structure lY (d:gE):Prop where
 WB:lU d.fm<=460800
 WP:d.fW.length<=14400
 rows:d.AC.length<=14400
 inl:d.fI.length<=43200
theorem DT (p:Q fw)(b:fY)(k:Int):lY (oT p b k):=by
 unfold oT;split
 ·rename_i h
  obtain⟨h1,h2,_⟩:=BZ p b k;have h3:=Et (p:=p) (P:=fun s=>s.size<=8) (Ge h.1) (jZ p b k) ⟨Wy,[]⟩ II;have h4:=Hv _ h3.2;have h5:=h3.1;simp only[RR] at h5;have h6:=K2 (jZ p b k);have h7:=EI (jZ p b k) C;have h8:=JQ (p:=p) (fun x hx=>(h1 x hx).io);exact⟨show lU (jz p b k).fm<=460800 from by unfold jz;omega,show (oX (jZ p b k)).length<=14400 from K9,show (sK (jZ p b k)).length<=14400 from by unfold sK;omega,show (mh p (jZ p b k)).length<=43200 from K9⟩
 ·exact⟨qo,qo,qo,qo⟩
theorem ES {d:gE} (h:lY d):(mQ d).size<=2966466:=by
 unfold mQ;split
 ·have h1:=Kv d
  have h2:=pE (uk (tA d));have h3:=h.WB;have h4:=h.WP;have h5:=h.rows;have h6:=h.inl;rw[mA];omega
 ·exact Rl _
def Bc (s:gk)(x y:gE × Bool):iZ × Bool:=
 if x.2=M/\y.2=M/\pG ⟨s,[x.1,y.1]⟩=M then (⟨s,[x.1,y.1]⟩,M) else (⟨⟨[],[],[]⟩,[]⟩,I)
def zW (p:Q fw)(b:fY)(s:gk):iZ × Bool:=Bc s (qO (mQ (oT p b 0))) (qO (mQ (oT p b 1)))
theorem tr {α:Type} {T:Ty α} (hf:kB T){e:R5}{W W':U}{L:Q Nat}{A:X RJ}{n c:Nat}{xs:Q α}(h:(T.sl e).R W W.heap.size [G A n c] xs)(hs:fx L W W')(hk:∀ ad,A=D ad->ad.block∉L):(T.sl e).R W' W'.heap.size [G A n c] xs:=by
 exact uL
theorem AX {α:Type} {T:Ty α} (h1s:T.size=1){W:U}{B:Nat}{g off:Nat}{n c:Nat}{xs:Q α}(h:(T.sl e).R W B [G (D ⟨g,off,C⟩) n c] xs){lo m:Nat}(hm:lo+m<=xs.length):(T.sl e).R W B [G (D ⟨g,off+lo,C⟩) m (c-lo)] ((xs.drop lo).take m):=by
 obtain⟨A',c',h1,h2,h3,h4,h5⟩:=h;injection h1 with h1 h1'
 injection h1 with hA hn hc
 subst hA hc hn;have a0:((xs.drop lo).take m).length=m:=by rw[SX,Tt];omega
 refine⟨D ⟨g,off+lo,C⟩,c-lo,by rw[a0],by rw[a0];omega,by omega,(fun h=>by simp at h),fun hp=>?_⟩;rw[a0] at hp;obtain⟨g',a1,he,hg,h6⟩:=h5 (by omega);injection he with he
 injection he with he1 he2
 subst he1 he2;refine⟨_,_,rfl,hg,fun i x hx=>?_⟩;have hi:i<m:=by have:=(Rd.1 hx).1;rw[a0] at this;exact this
 rw[List.getElem?_take_of_lt hi,TT] at hx;obtain⟨ec,hR,hc⟩:=h6 (lo+i) x hx;refine⟨ec,hR,fun j u hu=>?_⟩;have:=hc j u hu;rw[h1s,TO] at this |-;rw[<-this];congr 2;omega
structure iT (w Y W:U)(k gb:Nat)(A0:X RJ)(c0:Nat)(vars:Q N)(A1:X RJ)(c1:Nat)(names:Q N)(A2:X RJ)(c2:Nat)(ars:Q Int)(A:X RJ)(n c:Nat)(out:Q fw)(S:Q Nat)(m:Nat):Prop where
 st:gN zQ 99 w Y W k A n c out S
 bx:jJ W k gb A0 c0 vars A1 c1 names A2 c2 ars
 le:m<=W.heap.size
 lb:gb<m
 l0:∀ ad,A0=D ad->ad.block<m
 l1:∀ ad,A1=D ad->ad.block<m
 l2:∀ ad,A2=D ad->ad.block<m
 db:gb∉S
 d0:∀ ad,A0=D ad->ad.block∉S
 d1:∀ ad,A1=D ad->ad.block∉S
 d2:∀ ad,A2=D ad->ad.block∉S
section
variable {w Y W W':U} {k gb:Nat} {A0:X RJ} {c0:Nat} {vars:Q N} {A1:X RJ} {c1:Nat} {names:Q N} {A2:X RJ} {c2:Nat} {ars:Q Int} {A:X RJ} {n c:Nat} {out:Q fw} {S:Q Nat} {m:Nat}
theorem jJ.on (h:jJ W k gb A0 c0 vars A1 c1 names A2 c2 ars)(hs:fx L W W')(hb:gb∉L)(h0:∀ ad,A0=D ad->ad.block∉L)(h1:∀ ad,A1=D ad->ad.block∉L)(h2:∀ ad,A2=D ad->ad.block∉L):jJ W' k gb A0 c0 vars A1 c1 names A2 c2 ars:=
 ⟨(hs.block gb ((blt h.iX)) hb).trans h.iX,⟨tr lA h.nP.v hs h0,tr lA h.nP.n hs h1,tr zE h.nP.a hs h2,h.nP.kv,h.nP.kn,h.nP.ka,h.nP.len,h.nP.ar,h.nP.lv,h.nP.ln⟩,h.ne,h.some_⟩
theorem iT.fy (h:iT w Y W k gb A0 c0 vars A1 c1 names A2 c2 ars A n c out S m)(hg:fu W W'):iT w Y W' k gb A0 c0 vars A1 c1 names A2 c2 ars A n c out S m:=
 ⟨h.st.fy hg,h.bx.fy hg,RG h.le hg.size,h.lb,h.l0,h.l1,h.l2,h.db,h.d0,h.d1,h.d2⟩
theorem iT.call (h:iT w Y W k gb A0 c0 vars A1 c1 names A2 c2 ars A n c out S m)(hs:fx [k] W W')(hC:iO w W' k):iT w Y W' k gb A0 c0 vars A1 c1 names A2 c2 ars A n c out S m:=
 ⟨h.st.call hs hC,h.bx.only hs,RG h.le hs.size,h.lb,h.l0,h.l1,h.l2,h.db,h.d0,h.d1,h.d2⟩
theorem iT.next {A':X RJ}{c' L:Nat}{out':Q fw}{S' Sy:Q Nat}(h:iT w Y W k gb A0 c0 vars A1 c1 names A2 c2 ars A n c out S m)(hon:fx S W W')(hH:Has (zQ.sl 99) W' [G A' L c'] out' S')(hS:∀ b∈S',b∈S∨b∈Sy∨W.heap.size<=b)(hSy:∀ b∈Sy,m<=b/\Y.heap.size<=b)(hL:L=out'.length):iT w Y W' k gb A0 c0 vars A1 c1 names A2 c2 ars A' L c' out' S' m:=by
 have a0:∀ q,q<m->q∉S->q∉S':=fun q hq hn hm=>by
  rcases hS q hm with h1 | h1 | h1
  ·exact hn h1
  ·have:=(hSy q h1).1;omega
  ·have:=h.le;omega
 exact⟨h.st.next hon hH hS (fun b hb=>(hSy b hb).2) hL,h.bx.on hon h.db h.d0 h.d1 h.d2,RG h.le hon.size,h.lb,h.l0,h.l1,h.l2,a0 _ h.lb h.db,fun ad e=>a0 _ (h.l0 ad e) (h.d0 ad e),fun ad e=>a0 _ (h.l1 ad e) (h.d1 ad e),fun ad e=>a0 _ (h.l2 ad e) (h.d2 ad e)⟩
end
def sV (x:fw):Prop:=x.Expr.length<=7/\x.fL.length<=4
theorem Ds (h:∀ x∈out,sV x){y:fw}(hy:sV y):∀ x∈out++[y],sV x:=by
 exact rV
theorem P7 (h:∀ x∈out,sV x)(ho:∀ x∈o,sC x):∀ x∈out++o,sV x:=fun x hx=>(Rr.1 hx).elim (h x) (fun hm=>⟨(ho x hm).2.1,by rw[(ho x hm).2.2];decide⟩)
def pj (l:Q fw):Nat:=(l.filter fun x=>decide (x.li=0)).length
theorem Bg (a b:Q fw):pj (a++b)=pj a+pj b:=by unfold pj;rw[UC,Rh]
theorem M6 (h:∀ x∈o,sC x):pj o=0:=by
 unfold pj;rw[TH,UJ];intro x hx;simpa using(h x hx).1
theorem Gx:∀(l:Q fw)(i:Nat),(lu l i).length=pj l
 | [],_=>rfl
 | x::r,i=>by
  unfold lu;have ih:=Gx r (i+1);by_cases h:x.li=0
  ·rw[Rs h];simp[pj,h] at ih |-;exact ih
  ·rw[Ro h];simp[pj,h] at ih |-;exact ih
def Ql (w W:U)(k:Nat)(e:Ending)(W':U):Prop:=∃ A n c out S,e=.returned (G A n c)/\n<=500/\(∀ x∈out,sV x)/\pj out<=4/\gN zQ 99 w W W' k A n c out S
def ua:Q N:=[{ data:=#[109,97,105,110] },{ data:=#[102] },{ data:=#[103,103] },{ data:=#[104] }]
def sS:Q Int:=[0,1,2,1]
theorem GS {w:U}:∀{xs:Q N},(∀ x∈xs,x.size<=9223372036854775807)->AC iI w (xs.map V) xs []
 | [],_=>⟨rfl,rfl⟩
 | x::xs,h=>⟨[V x],xs.map V,[],[],rfl,rfl,⟨rfl,h x TA,rfl⟩,GS fun y hy=>h y (SV _ hy)⟩
theorem yB {cs:Array Value} {g:Nat} (xs:Q N)(hcs:cs.toList=xs.map V)(hn:n=xs.length)(hg:g=W.heap.size)(hb:∀ x∈xs,x.size<=9223372036854775807)(hl:xs.length<=1000):(iI.sl e).R (W.alloc (F cs e)) (W.alloc (F cs e)).heap.size [G (D ⟨g,0,C⟩) n n] xs:=by
 subst hn hg
 have h:(iI.sl e).O (W.alloc (F cs e)) [G (D ⟨W.heap.size,0,C⟩) xs.length xs.length] xs (W.heap.size::[]):=
  qi (Re W _) (by rw[hcs];exact GS hb) K9
 exact Ty.read _ h
theorem Bq:∀ a∈sS,fE a/\0<=a/\a<=2:=by
 intro a ha;have:a=0∨a=1∨a=2∨a=1:=by simpa[sS] using ha
 rcases this with rfl | rfl | rfl | rfl <;> exact⟨⟨qo,qo⟩,qo,qo⟩
theorem IL {α:Type} {T:Ty α} (h1s:T.size=1){W:U}{B g kk nn:Nat}{xs:Q α}(h:(T.sl e).R W B [G (D ⟨g,0,C⟩) 4 4] xs)(hx:xs.length=4)(h1:kk+1<=nn)(h2:nn<=4) :
  (T.sl e).R W B [G (if kk=3 then D ⟨g,0,C⟩ else D ⟨g,kk+1,C⟩) (nn-(kk+1)) (3-kk)] ((xs.drop (kk+1)).take (nn-(kk+1))):=by
 by_cases hk:kk=3
 ·subst hk
  rw[Rs rfl,show nn-(3+1)=0 from K9,SH];exact⟨_,_,rfl,Rl _,qo,(fun h=>by simp at h),fun hp=>absurd hp (Uo 0)⟩
 ·rw[Ro hk]
  have:=AX (lo:=kk+1) (m:=nn-(kk+1)) h1s h K9;rw[RF,show 4-(kk+1)=3-kk from K9] at this;exact this
theorem He {α:Type} {kk nn:Nat} {xs:Q α} (hx:xs.length=4)(h1:kk+1<=nn)(h2:nn<=4):((xs.drop (kk+1)).take (nn-(kk+1))).length=nn-(kk+1):=by
 rw[SX,Tt];omega
theorem Oq {α:Type} {T:Ty α} {xs:Q α} (h:Has (T.sl e) W [G A n c] xs S):∀ ad,A=D ad->ad.block∈S:=by
 obtain⟨⟨A',c',a0,S',h1,_,_,rfl⟩,_⟩:=h;injection h1 with h1 _
 injection h1 with hA _ _
 subst hA;rintro ad rfl;simp[kj]
theorem jJ.mk' {n0:Nat} {n1:Nat} {n2:Nat} (hb:W.heap[gb]?=D (F #[.pointer (D ⟨k,0,C⟩),G A0 n0 c0,G A1 n1 c1,G A2 n2 c2] 219 (0,0)))
  (e0:n0=vars.length) (e1:n1=names.length) (e2:n2=ars.length) (hv:(iI.sl 9).R W W.heap.size [G A0 n0 c0] vars) (hn:(iI.sl 9).R W W.heap.size [G A1 n1 c1] names) (ha:(zr.sl 3).R W W.heap.size [G A2 n2 c2] ars)
  (kv:∀ ad,A0=D ad->ad.block≠k) (kn:∀ ad,A1=D ad->ad.block≠k) (ka:∀ ad,A2=D ad->ad.block≠k) (har:∀ a∈ars,0<=a/\a<=2) (h12:n1=n2) (lv:n0<=1000) (ln:n1<=1000) (ne:gb≠k) (h0:0<n0):jJ W k gb A0 c0 vars A1 c1 names A2 c2 ars:=by
 subst e0 e1 e2;exact⟨hb,⟨hv,hn,ha,kv,kn,ka,h12,har,lv,ln⟩,ne,h0⟩
theorem gN.over {α:Type} {T:Ty α} {t:R5} {W0 W':U} {out:Q α} (h:gN T t w W0 W k A n c out S)(hon:fx L W W')(hk:k∉L)(hL:∀ b∈L,b∉S/\W0.heap.size<=b):gN T t w W0 W' k A n c out S:=
 ⟨h.cur.only hon hk (fun b hb=>by have:=(hL b hb).2;have:=h.vZ;have:=h.cur.lo;omega),h.only.then hon (fun x hx=>.inr (hL x hx).2),h.has.fJ hon (fun b hb hm=>(hL b hm).1 hb),h.lo,h.vZ,h.len⟩
theorem iT.set {Y:U} {m:Nat} (h:iT w Y W k gb A0 c0 vars A1 c1 names A2 c2 ars A n c out S m)
  {B1:X RJ} {n1 d1:Nat} {names':Q N} {B2:X RJ} {n2 d2:Nat} {ars':Q Int} (hn:(iI.sl 9).R W W.heap.size [G B1 n1 d1] names') (ha:(zr.sl 3).R W W.heap.size [G B2 n2 d2] ars') (e1:n1=names'.length) (e2:n2=ars'.length)
  (b1:∀ ad,B1=D ad->ad.block<m/\ad.block≠k/\ad.block∉S/\ad.block≠gb) (b2:∀ ad,B2=D ad->ad.block<m/\ad.block≠k/\ad.block∉S/\ad.block≠gb) (h12:n1=n2) (har:∀ a∈ars',0<=a/\a<=2) (ln:n1<=1000) (hv:∀ ad,A0=D ad->ad.block≠gb) (hY:Y.heap.size<=gb) :
  iT w Y ((W.setCell ⟨gb,2,C⟩ (G B1 n1 d1)).setCell ⟨gb,3,C⟩ (G B2 n2 d2)) k gb A0 c0 vars B1 d1 names' B2 d2 ars' A n c out S m:=by
 have a0:fx [gb] W ((W.setCell ⟨gb,2,C⟩ (G B1 n1 d1)).setCell ⟨gb,3,C⟩ (G B2 n2 d2)):=((fx.refl [gb] W).setCell II _).setCell II _;have hb:=zV (zV h.bx.iX 2 (G B1 n1 d1)) 3 (G B2 n2 d2);have hx:=h.bx
 exact⟨h.st.over a0 (by simpa using hx.ne.symm) (fun b hm=>by simp only[Rc] at hm;subst hm;exact⟨h.db,hY⟩),
  jJ.mk' hb rfl e1 e2 (tr lA hx.nP.v a0 (fun ad e=>by simpa using hv ad e)) (tr lA hn a0 (fun ad e=>by simpa using(b1 ad e).2.2.2)) (tr zE ha a0 (fun ad e=>by simpa using(b2 ad e).2.2.2)) hx.nP.kv (fun ad e=>(b1 ad e).2.1) (fun ad e=>(b2 ad e).2.1) har h12 hx.nP.lv ln hx.ne hx.some_,
  RG h.le a0.size,h.lb,h.l0,fun ad e=>(b1 ad e).1,fun ad e=>(b2 ad e).1,h.db,h.d0,fun ad e=>(b1 ad e).2.2.1,fun ad e=>(b2 ad e).2.2.1⟩
theorem ztJ (hC:iO w W k):RD prog 101 #[.pointer (D ⟨k,0,C⟩)] W (Ql w W k):=by
 go_enter func101,ntmps101;go_upto_region 3 with(fail);have aH:fu W ((W.alloc (F #[V { data:=#[109,97,105,110] },V { data:=#[102] },V { data:=#[103,103] },V { data:=#[104] }] 9)).alloc (F #[J Z 0,J Z 1,J Z 2,J Z 1] 3)):=gG
 have ai:(iI.sl 9).R ((W.alloc (F #[V { data:=#[109,97,105,110] },V { data:=#[102] },V { data:=#[103,103] },V { data:=#[104] }] 9)).alloc (F #[J Z 0,J Z 1,J Z 2,J Z 1] 3)) ((W.alloc (F #[V { data:=#[109,97,105,110] },V { data:=#[102] },V { data:=#[103,103] },V { data:=#[104] }] 9)).alloc (F #[J Z 0,J Z 1,J Z 2,J Z 1] 3)).heap.size [G (D ⟨W.heap.size,0,C⟩) 4 4] ua:=by
  have h:=yB (W:=W) (e:=9) (cs:=#[V { data:=#[109,97,105,110] },V { data:=#[102] },V { data:=#[103,103] },V { data:=#[104] }]) (n:=4) (g:=W.heap.size) ua rfl rfl rfl qo qo;exact Ty.up _ h gG
 have ao:(zr.sl 3).R ((W.alloc (F #[V { data:=#[109,97,105,110] },V { data:=#[102] },V { data:=#[103,103] },V { data:=#[104] }] 9)).alloc (F #[J Z 0,J Z 1,J Z 2,J Z 1] 3)) ((W.alloc (F #[V { data:=#[109,97,105,110] },V { data:=#[102] },V { data:=#[103,103] },V { data:=#[104] }] 9)).alloc (F #[J Z 0,J Z 1,J Z 2,J Z 1] 3)).heap.size [G (D ⟨W.heap.size+1,0,C⟩) 4 4] sS:=Dz sS rfl rfl II (fun a ha=>(Bq a ha).1) qo;have ay:((W.alloc (F #[V { data:=#[109,97,105,110] },V { data:=#[102] },V { data:=#[103,103] },V { data:=#[104] }] 9)).alloc (F #[J Z 0,J Z 1,J Z 2,J Z 1] 3)).heap.size=W.heap.size+2:=II;generalize ((W.alloc _).alloc _)=Y at aH ai ao ay |-;obtain⟨gn,aJ⟩:∃ g,W.heap.size=g:=⟨_,rfl⟩
 have bV:=hC.lt;have bh:=hC.more aH;have bg:=fh aH;have bv:=fh aJ;rw[aJ] at ai ao ay bV |-;clear aJ aH;go_upto_region 5 with(go_at_call 36;(with_reducible refine(nS bh 4 qo qo).mono ?_);rintro e W1 ⟨n0,rfl,c0,az,aD⟩;have c4:Rg Z (1+(n0:Int))=1+n0:=iw);go_upto_if 999 with(fail)
 have h0:=gN.Wy (T:=zQ) (t:=99) az aD bh.lt;generalize (W1.alloc _)=Y1 at h0 |-;obtain⟨nn,bs⟩:∃ nn:Nat,(nn:Int)=1+n0:=⟨1+n0,K9⟩
 rw[<-bs];have a8:nn<=4:=K9;clear az aD bs c4 c0;go_loopw [6,7] (fun o i wr=>∃(kk n6:Nat) (A6:X RJ) (c6:Nat) (out:Q fw) (S:Q Nat),o=G A6 n6 c6/\i=J Z kk/\kk<=nn/\n6<=kk*103/\pj out<=kk/\Hid (∀ x∈out,sV x)/\Hid (gN zQ 99 w Y wr k A6 n6 c6 out S)) (fun _ i _=>nn-(RS i).toNat)
 case atStart=>exact⟨0,0,_,0,[],_,rfl,rfl,Rl _,Rl _,Rl _,fh (fun x hx=>by cases hx),fh h0⟩
 clear h0;obtain⟨kk,n6,A6,c6,out,S,rfl,rfl,ck,cm,ch,HL,HG⟩:=hrel;have h1:=HG.out;by_cases hlt:kk<nn
 ·have bd:(kk:Int)<(nn:Int):=K9
  have ct:Rg Z ((kk:Int)+1)=(kk:Int)+1:=iw;have aK:=rq lA ai h1.only (fun ad e=>by injection e with e;subst e;simp only;omega);have aq:=rq zE ao h1.only (fun ad e=>by injection e with e;subst e;simp only;omega);obtain⟨g2,o2,a,aO,bQ,b3,_,_⟩:=lJ aq (k:=kk) (by simp[sS];omega);injection aO with aO
  injection aO with e1 e2
  subst e1 e2;obtain⟨cf,bN,bO⟩:=Bq a (Rt bQ);obtain⟨av,rfl⟩:=RE bN;have bY:(kk:Int)<4:=K9;rw[RF] at b3;have bR:(av:Int)<=2:=bO;have b4:(wr.alloc (F #[V { data:=#[120] },V { data:=#[121] }] 9)).cell? ⟨gn+1,kk,C⟩=D (J Z (av:Int)):=zo b3 _;go_upto_region 9 with(fail);have bu:=yB (W:=wr) (e:=9) (cs:=#[V { data:=#[120] },V { data:=#[121] }]) (n:=2) (g:=wr.heap.size) [{ data:=#[120] },{ data:=#[121] }] rfl rfl rfl qo qo;have a0:=AX (lo:=0) (m:=av) rfl bu (by simp;omega);rw[Sx,Sr,Nat.sub_zero] at a0;have h2:=h1.fy (show fu wr (wr.alloc (F #[V { data:=#[120] },V { data:=#[121] }] 9)) from gG);have a5:(wr.alloc (F #[V { data:=#[120] },V { data:=#[121] }] 9)).heap.size=wr.heap.size+1:=Rz _ _;generalize (wr.alloc _)=Q9 at a0 h2 a5 |-;obtain⟨gx,bT⟩:∃ g,wr.heap.size=g:=⟨_,rfl⟩
  rw[bT] at a0 a5 |-;obtain⟨a1,a6,bz⟩:∃ a1:Q N,a1.length=av/\a1=List.take av [{ data:=#[120] },{ data:=#[121] }]:=⟨_,by simp;omega,rfl⟩
  rw[<-bz] at a0;clear bu b3 b4 aK aq;have bt:(nn:Int)<=4:=K9;have bW:0<=(kk:Int)+1:=K9;have bX:(kk:Int)+1<=(nn:Int):=K9;have am:(Q9.alloc (F #[] 9)).heap[gx+1]?=D (F #[] 9 (0,0)):=by have h:=Re Q9 (F #[] 9);rw[a5] at h;exact h
  have bD:((Q9.alloc (F #[V { data:=#[105] },V { data:=#[122] }] 9)).alloc (F #[] 9)).heap[gx+2]?=D (F #[] 9 (0,0)):=by have h:=Re (Q9.alloc (F #[V { data:=#[105] },V { data:=#[122] }] 9)) (F #[] 9);rw[Rz,a5] at h;exact h
  have bL:=yB (W:=Q9.alloc (F #[] 9)) (e:=9) (cs:=#[V { data:=#[105] },V { data:=#[122] }]) (n:=2) (g:=gx+2) [{ data:=#[105] },{ data:=#[122] }] rfl rfl (by rw[Rz,a5]) qo qo;have bM:=yB (W:=Q9) (e:=9) (cs:=#[V { data:=#[105] },V { data:=#[122] }]) (n:=2) (g:=gx+1) [{ data:=#[105] },{ data:=#[122] }] rfl rfl (by rw[a5]) qo qo;have aY:=Ty.up _ bM (show fu _ ((Q9.alloc (F #[V { data:=#[105] },V { data:=#[122] }] 9)).alloc (F #[] 9)) from gG);obtain⟨Q1,aA⟩:∃ Q8:X RJ,(if kk=3 then D ⟨gn,0,C⟩ else D ⟨gn,kk+1,C⟩)=Q8:=⟨_,rfl⟩
  obtain⟨Q2,aB⟩:∃ Q8:X RJ,(if kk=3 then D ⟨gn+1,0,C⟩ else D ⟨gn+1,kk+1,C⟩)=Q8:=⟨_,rfl⟩
  go_cut [9] from 27 to 45 (fun v wx=>∃(W8:U) (gb:Nat) (A8:X RJ) (c8:Nat) (S8:Q Nat),v=.pointer (D ⟨gb,0,C⟩)/\gb=W8.heap.size/\fu Q9 W8/\Has (iI.sl 9) W8 [G A8 (av+2) c8] (a1++[{ data:=#[105] },{ data:=#[122] }]) S8/\(∀ b∈S8,Q9.heap.size<=b)/\fu (W8.alloc (F #[.pointer (D ⟨k,0,C⟩),G A8 (av+2) c8,G Q1 (nn-(kk+1)) (3-kk),G Q2 (nn-(kk+1)) (3-kk)] 219)) wx)
  case first=>
   go_region_law (first
    | (refine zR (L:=av) rfl (.tmp 28) (.tmp 29) tG lA (S:=[gx+2]) (Has.Wy iI (zj bD gF)) (Ty.up _ a0 gF) rfl rfl rfl (RF _).symm K9 K9 ?_;intro A7 c7 W7 S7 a2 ab a9;have aF:fu Q9 W7:=a2.fy gF (fun b hb=>by simp only[Rc] at hb;omega);have bb:=tr lA (Ty.up _ aY (fu.drew (fu.refl _))) a2 (fun ad e=>by injection e with e;subst e;simp))
    | (refine zR (L:=av) rfl (.tmp 28) (.tmp 29) tG lA (S:=[gx+1]) (Has.Wy iI (zj am gF)) (Ty.up _ a0 gF) rfl rfl rfl (RF _).symm K9 K9 ?_;intro A7 c7 W7 S7 a2 ab a9;have aF:fu Q9 W7:=a2.fy gF (fun b hb=>by simp only[Rc] at hb;omega);have bb:=tr lA (Ty.up _ bL (fu.drew (fu.refl _))) a2 (fun ad e=>by injection e with e;subst e;simp))
    | (refine zR (L:=av) rfl (.tmp 28) (.tmp 29) tG lA (S:=[gx+1]) (Has.Wy iI (zj am gF)) (Ty.up _ a0 gF) rfl rfl rfl (RF _).symm K9 K9 ?_;intro A7 c7 W7 S7 a2 ab a9;have aF:fu Q9 W7:=a2.fy gF (fun b hb=>by simp only[Rc] at hb;omega);have bb:=yB (W:=W7) (e:=9) (cs:=#[V { data:=#[105] },V { data:=#[122] }]) (n:=2) (g:=W7.heap.size) [{ data:=#[105] },{ data:=#[122] }] rfl rfl rfl qo qo)
    | (refine zR (L:=av+2) rfl (.tmp 30) (.tmp 31) tG lA (ab.fy gF) (Ty.up _ bb gF) rfl rfl rfl rfl K9 K9 ?_;intro A8 c8 W8 S8 af an aE;have aG:fu Q9 W8:=af.fy (aF.trans gF) (fun b hb=>by rcases a9 b hb with h | h <;> simp at h <;> omega)))
   all_goals (try rw[aA])
   all_goals (try rw[aB])
   all_goals (try simp only[aA,aB])
   all_goals go_wp2_with(fail)
   all_goals go_meet
   all_goals exact⟨W8,_,A8,c8,S8,rfl,rfl,aG,an,(fun b hb=>(aE b hb).elim (fun h=>by rcases a9 b h with h | h <;> simp at h <;> omega) (fun h=>by have:=aF.size;(try simp at h);omega)),gF⟩
  obtain⟨W8,gb,A8,c8,S8,rfl,bo,aG,an,aE,aI⟩:=hcut;have b6:fu Q9 wc:=(aG.trans (show fu W8 (W8.alloc (F #[.pointer (D ⟨k,0,C⟩),G A8 (av+2) c8,G Q1 (nn-(kk+1)) (3-kk),G Q2 (nn-(kk+1)) (3-kk)] 219)) from gG)).trans aI;have h3:=h2.fy b6;have b2:wc.heap[gb]?=D (F #[.pointer (D ⟨k,0,C⟩),G A8 (av+2) c8,G Q1 (nn-(kk+1)) (3-kk),G Q2 (nn-(kk+1)) (3-kk)] 219 (0,0)):=by rw[bo];exact zj (Re W8 _) aI
  have b7:gb<wc.heap.size:=(blt b2)
  have co:=aG.size;have cp:=h1.only.size;have a3:=Oq an;have aa:=an.lt
  have ac:∀ ad,Q1=D ad->ad.block=gn:=by
   rintro ad e;rw[<-aA] at e;split at e <;> (injection e with e;subst e;rfl)
  have ae:∀ ad,Q2=D ad->ad.block=gn+1:=by
   rintro ad e;rw[<-aB] at e;split at e <;> (injection e with e;subst e;rfl)
  have aK:=rq lA ai h3.only (fun ad e=>by injection e with e;subst e;simp only;omega);have aq:=rq zE ao h3.only (fun ad e=>by injection e with e;subst e;simp only;omega);have be:=IL (kk:=kk) (nn:=nn) rfl aK rfl K9 a8;have b1:=IL (kk:=kk) (nn:=nn) rfl aq rfl K9 a8;rw[aA] at be;rw[aB] at b1
  have bl:jJ wc k gb A8 c8 (a1++[{ data:=#[105] },{ data:=#[122] }]) Q1 (3-kk) ((ua.drop (kk+1)).take (nn-(kk+1))) Q2 (3-kk) ((sS.drop (kk+1)).take (nn-(kk+1))):=
   jJ.mk' b2 (by simp[a6]) (He rfl K9 a8).symm (He rfl K9 a8).symm (an.fy ((show fu W8 (W8.alloc _) from gG).trans aI)).read be b1 (fun ad e=>by have:=aE _ (a3 ad e);omega) (fun ad e=>by rw[ac ad e];omega) (fun ad e=>by rw[ae ad e];omega)
    (fun a ha=>(Bq a (List.mem_of_mem_drop (List.mem_of_mem_take ha))).2) rfl K9 K9 K9 K9
  have ap:∀ b∈S,b<Q9.heap.size:=h2.has.lt;have a7:=h2.lo
  have ak:iT w Y wc k gb A8 c8 (a1++[{ data:=#[105] },{ data:=#[122] }]) Q1 (3-kk) ((ua.drop (kk+1)).take (nn-(kk+1))) Q2 (3-kk) ((sS.drop (kk+1)).take (nn-(kk+1))) A6 n6 c6 out S wc.heap.size:=
   ⟨h3,bl,Ru _,b7,fun ad e=>by have h1:=aa _ (a3 ad e);omega,fun ad e=>by rw[ac ad e];omega,fun ad e=>by rw[ae ad e];omega,fun hm=>by have:=ap _ hm;omega,fun ad e hm=>by have h1:=ap _ hm;have h2:=aE _ (a3 ad e);omega,fun ad e hm=>by rw[ac ad e] at hm;have:=a7 _ hm;omega,fun ad e hm=>by rw[ae ad e] at hm;have:=a7 _ hm;omega⟩
  have a0:=Ty.up _ a0 b6;have bU:gx∉S:=fun hm=>by have:=h1.has.lt gx hm;omega
  have b9:gx≠gb:=K9;have ba:gx≠k:=by have:=h1.cur.lt;omega
  have bS:Q9.heap.size<=gb:=K9;have aP:∀ ad,A8=D ad->ad.block≠gb:=fun ad e=>by have:=aa _ (a3 ad e);omega
  clear bo;have bp:0<=(kk:Int):=K9;have bq:(kk:Int)<=(nn:Int):=K9;obtain⟨m,hm⟩:∃ m,wc.heap.size=m:=⟨_,rfl⟩
  rw[hm] at ak;clear hm;go_upto_region 10 with(fail);go_cut [50] from 45 to 65 (fun v wx=>∃ b:Bool,v=H b/\Hid (iT w Y wx k gb A8 c8 (a1++[{ data:=#[105] },{ data:=#[122] }]) Q1 (3-kk) ((ua.drop (kk+1)).take (nn-(kk+1))) Q2 (3-kk) ((sS.drop (kk+1)).take (nn-(kk+1))) A6 n6 c6 out S m)/\(iI.sl 9).R wx wx.heap.size [G (D ⟨gx,0,C⟩) av 2] a1)
  case first=>
   by_cases hk0:0<kk
   ·have bc:(0:Int)<(kk:Int):=K9
    go_wp2_with(go_at_call 103;(with_reducible refine(zhc h3.cur 5 qo qo).mono ?_);rintro e W5 ⟨b,rfl,bB,bk⟩);go_meet;exact⟨b,rfl,fh (ak.call bk bB),rq lA a0 bk (fun ad e=>by injection e with e;subst e;exact ba)⟩
   ·have bc:¬ ((0:Int)<(kk:Int)):=K9
    go_wp2_with(fail);go_meet;exact⟨I,rfl,fh ak,a0⟩
  obtain⟨b,rfl,aL,aZ⟩:=hcut;clear a0 ak h3 bl aK aq be b1 b2 b6 aI h2;have ah:=aL.out;go_upto_if 50 with(fail)
  go_cut [] from 45 to 65 (fun wx=>∃(A1:X RJ) (c1:Nat) (names:Q N) (A2:X RJ) (c2:Nat) (aM:Q Int),Hid (iT w Y wx k gb A8 c8 (a1++[{ data:=#[105] },{ data:=#[122] }]) A1 c1 names A2 c2 aM A6 n6 c6 out S m)/\(iI.sl 9).R wx wx.heap.size [G (D ⟨gx,0,C⟩) av 2] a1)
  case first=>
   cases b with
   | false=>
    go_wp2_with(fail);go_meet;exact⟨_,_,_,_,_,_,aL,aZ⟩
   | true=>
    obtain⟨p0,p1,p2,p3,pf,pl⟩:=iL ah.bx.iX;have c3:=rq lA ai ah.st.only (fun ad e=>by injection e with e;subst e;simp only;omega);have b0:=rq zE ao ah.st.only (fun ad e=>by injection e with e;subst e;simp only;omega);have ax:=AX (lo:=kk) (m:=nn-kk) rfl c3 (by simp[ua];omega);have ar:=AX (lo:=kk) (m:=nn-kk) rfl b0 (by simp[sS];omega);rw[RF] at ax ar;have bK:gn∉S:=fun hm=>by have:=a7 _ hm;omega
    have bJ:gn+1∉S:=fun hm=>by have:=a7 _ hm;omega
    have ci:=ah.lb;have bF:=ah.set (d1:=4-kk) (d2:=4-kk) ax ar (by simp[ua];omega) (by simp[sS];omega) (fun ad e=>by injection e with e;subst e;exact⟨by simp only;omega,by simp only;omega,bK,by simp only;omega⟩) (fun ad e=>by injection e with e;subst e;exact⟨by simp only;omega,by simp only;omega,bJ,by simp only;omega⟩) rfl (fun a ha=>(Bq a (List.mem_of_mem_drop (List.mem_of_mem_take ha))).2) K9 aP K9;have bP:=tr lA aZ (show fx [gb] wc ((wc.setCell ⟨gb,2,C⟩ (G (D ⟨gn,kk,C⟩) (nn-kk) (4-kk))).setCell ⟨gb,3,C⟩ (G (D ⟨gn+1,kk,C⟩) (nn-kk) (4-kk))) from((fx.refl [gb] wc).setCell II _).setCell II _) (fun ad e=>by injection e with e;subst e;simpa using b9);go_wp2_with(fail);go_meet;exact⟨_,_,_,_,_,_,fh bF,bP⟩
  obtain⟨A1,c1,names,A2,c2,aM,HR,a0⟩:=hcut;clear aL ah aZ;have hR:=HR.out;have br:=rq lA ai hR.st.only (fun ad e=>by injection e with e;subst e;simp only;omega);obtain⟨g1,o1,nm,aN,cn,al,bf⟩:=wF br (k:=kk) (by simp[ua];omega);injection aN with aN
  injection aN with e1 e2
  subst e1 e2;rw[RF] at al;have b8:=R7 _ _ al;simp only at b8;have b5:(wc.alloc (F #[] 9)).cell? ⟨gn,kk,C⟩=D (V nm):=zo al _;have am:=Re wc (F #[] 9);go_upto_region 13 with(fail);go_cut [6] from 65 to 76 (fun v wx=>∃(A7:X RJ) (c7:Nat) (y:fw) (S7:Q Nat),v=G A7 (n6+1) c7/\sV y/\Hid (iT w Y wx k gb A8 c8 (a1++[{ data:=#[105] },{ data:=#[122] }]) A1 c1 names A2 c2 aM A7 (n6+1) c7 (out++[y]) S7 m))
  case first=>
   go_region_law (first
    | (refine zR (L:=av) rfl (.tmp 70) (.tmp 71) tG lA (S:=[wc.heap.size]) (Has.Wy iI (zj am gF)) (Ty.up _ a0 gF) rfl rfl rfl (RF _).symm K9 K9 ?_;intro A9 c9 W9 S9 ag aR aX;have bn:fu wc W9:=ag.fy gF (fun b hb=>by simp only[Rc] at hb;omega);have al:=za bn al;have bi:=hR.fy bn;have aw:∀ b∈S9++[],wc.heap.size<=b:=(fun b hb=>by rw[Tl] at hb;rcases aX b hb with h | h <;> simp at h <;> omega);have aS:Has (iI.sl 9) W9 [G A9 a1.length c9] a1 S9:=(by rw[a6];simpa using aR);have cc:=Dr (x:=⟨0,nm,a1,[]⟩) (show fE 0 from⟨qo,qo⟩) bf aS (Has.nil jf 160 W9) (fun b _ hb=>by cases hb))
    | (refine wU (L:=n6+1) rfl (.tmp 65) (.tmp 74) ng (bi.st.has.fy gF) (cc.fy gF) (fun b hb hm=>by have k1:=aw b hm;have k2:=hR.st.has.lt b hb;omega) rfl rfl rfl (by intro j u hu;simpa[go_sem,a6] using hu) rfl K9 K9 ?_;intro A7 c7 W7 S7 a2 ab a9;have aC:=(bi.fy gF).next a2 ab a9 (fun b hb=>by have k1:=aw b hb;have k2:=hR.le;have k3:=hR.st.only.size;omega) (by rw[Rh,<-hR.st.len];rfl)))
   all_goals go_wp2_with(fail)
   all_goals go_meet
   all_goals exact⟨A7,c7,_,S7,rfl,⟨II,by simp only;omega⟩,fh (aC.fy gF)⟩
  obtain⟨A7,c7,y,S7,rfl,cd,bw⟩:=hcut;clear hR HR a0 al b5 am br;have aC:=bw.out
  go_upto_region 15 with(first
   | (go_at_call 36;(with_reducible refine(nS aC.st.cur 4 qo qo).mono ?_);rintro e V1 ⟨u1,rfl,cq,az,aD⟩;have bj:=aC.call aD az;have c5:Rg Z (1+(u1:Int))=1+u1:=iw)
   | (go_at_call 36;(with_reducible refine(nS bj.st.cur 2 qo qo).mono ?_);rintro e V2 ⟨u2,rfl,cr,bA,bH⟩;have aj:=bj.call bH bA;have ca:Rg Z (1+(u2:Int))=1+u2:=iw)
   | (go_at_call 156;(with_reducible refine(zqM (1+u2) K9 (1+u1) K9 _ K9 _ K9 aj.st.cur aj.bx).mono ?_);rintro e V3 ⟨B3,n3,d3,o3,T3,rfl,cl,bm,h3⟩;have aT:=aj.call h3.only h3.cur;have cg:(1+u1)*cb (1+u2)<=4*25:=U0 K9 (BC K9))
   | (refine yV (L:=n6+1+n3) rfl (.tmp 76) (.tmp 84) ng aT.st.has h3.has (fun b hb hm=>by have k1:=h3.lo b hm;have k2:=aj.st.has.lt b hb;omega) rfl rfl rfl rfl K9 K9 ?_;intro B8 d8 V8 ce af aQ aW;have ak:=aT.next af aQ aW (fun b hb=>by have k1:=h3.lo b hb;have k2:=aj.le;have k3:=aj.st.only.size;omega) (by rw[Rh,<-aT.st.len,<-h3.len])))
  have a4:=ak
  go_upto_region 16 with(first
   | (go_at_call 157;(with_reducible refine(zej (n:=3) (m:=3) qo qo a4.st.cur a4.bx).mono ?_);rintro e W6 ⟨B6,d6,o6,S6,rfl,bZ,bC,bI,bE,au⟩;have aU:=a4.call bI bC)
   | (refine zJ (L:=n6+1+n3+1) rfl (.tmp 86) (.tmp 90) ng (aU.fy gF).st.has ((tC (kd:=6) (nm:={ data:=#[] }) ⟨qo,qo⟩ qo bE).fy gF) (fun b hb hm=>by have k1:=au b hm;have k2:=a4.st.has.lt b hb;omega) rfl rfl rfl (by intro j u hu;simpa[go_sem] using hu) rfl K9 K9 ?_;intro B9 d9 V9 T9 ag aR aX;have aV:=(aU.fy gF).next ag aR aX (fun b hb=>by have k1:=au b hb;have k2:=a4.le;have k3:=a4.st.only.size;omega) (by rw[Rh,<-aU.st.len];rfl)))
  go_wp2_with(first
   | (refine zJ (L:=n6+1+n3+1+1) rfl (.tmp 92) (.tmp 94) ng (Sy:=[]) (aV.fy gF).st.has (yd (kd:=7) ⟨qo,qo⟩) (fun b hb hm=>by cases hm) rfl rfl rfl (by intro j u hu;simpa[go_sem] using hu) rfl K9 K9 ?_;intro B7 d7 V7 T7 a2 ab a9;have bG:=(aV.fy gF).next a2 ab a9 (fun b hb=>by cases hb) (by rw[Rh,<-aV.st.len];rfl)))
  go_roundw
  case measure=>exact gM
  case rel=>
   refine⟨kk+1,_,B7,d7,_,T7,rfl,Ar,K9,K9,?_,fh ?_,fh bG.st⟩
   ·have h1:pj [y]<=1:=TU _ _
    rw[Bg,Bg,Bg,Bg,M6 bm];have h2:pj [(⟨6,{ data:=#[] },[],o6⟩:fw)]=0:=rfl;have h3:pj [(⟨7,{ data:=#[] },[],[]⟩:fw)]=0:=rfl;omega
   ·exact Ds (Ds (P7 (Ds HL.out cd) bm) ⟨by have:=bZ;simp only[ns] at this;simp at this |-;omega,II⟩) ⟨II,II⟩
 ·obtain rfl:kk=nn:=K9
  have bd:¬ ((kk:Int)<(kk:Int)):=K9;go_wp2_with(fail);go_ret;have cj:=bg.out.size;have aJ:=bv.out;exact⟨A6,n6,c6,out,S,rfl,K9,HL.out,K9,⟨h1.cur,(bg.out.only [k]).trans h1.only,h1.has,fun b hb=>by have:=h1.lo b hb;omega,K9,h1.len⟩⟩
def lV {α:Type} [DecidableEq α]:Q α->α->Nat->Int
 | [],_,_=>-1
 | x::r,v,i=>if v=x then i else lV r v (i+1)
theorem Hj {α:Type} [DecidableEq α]{xs:Q α}{k:Nat}{x v:α}(h:xs[k]?=D x)(i:Nat):lV (xs.drop k) v i=if v=x then (i:Int) else lV (xs.drop (k+1)) v (i+1):=by
 obtain⟨h1,rfl⟩:=Rd.1 h;rw[Rw h1];rfl
theorem F7 {α:Type} [DecidableEq α](v:α):∀(xs:Q α)(i:Nat),0<=lV xs v i↔v∈xs
 | [],_=>by simp[lV]
 | x::r,i=>by
  unfold lV;split
  ·rename_i h;subst h;simp
  ·rename_i h;rw[F7 v r (i+1)];simp[h]
theorem AK {α:Type} [DecidableEq α](v:α)(xs:Q α):decide (lV xs v 0≥0)=(xs.any fun y=>decide (y=v)):=by
 rw[UP,UD,ge_iff_le,F7 v xs 0];simp
theorem zfv {v:N} (hx:(iI.sl 9).R w w.heap.size [G A xs.length c] xs)(hl:xs.length<=8796093022208) :
  RD prog 193 #[G A xs.length c,V v] w fun e w'=>e=.returned (J Z (lV xs v 0))/\fu w w':=by
 go_enter func193,ntmps193;go_wp2_with(fail);go_loopw [5] (fun j wr=>∃(k:Nat),j=J Z k/\k<=xs.length/\Hid (fu w wr)/\Hid (lV (xs.drop k) v k=lV xs v 0)) (fun j _=>xs.length-(RS j).toNat)
 case atStart=>exact⟨0,rfl,Rl _,fh gF,fh rfl⟩
 case round=>
  obtain⟨k,rfl,hk,hG,hE⟩:=hrel;by_cases hlt:k<xs.length
  ·obtain⟨g,a3,x,rfl,a0,x0,_⟩:=wF hx hlt
   have a1:(k:Int)<(xs.length:Int):=K9;have x0:=za hG.out x0;have HX:=fh a0;clear a0;by_cases hv:v=x
   ·have HF:Hid (lV xs v 0=k):=fh (by rw[<-hE.out,Hj HX.out,Rs hv])
    have a2:(x.toList == v.toList)=M:=by rw[lC];simp[hv]
    clear hv;go_wp2_with(fail);exact Rj (v:=J Z (k:Int)) (by simp[Rv,results193,go_sem]) rfl ⟨by rw[HF.out],hG.out.trans gF⟩
   ·have HF:Hid (lV (xs.drop (k+1)) v (k+1)=lV xs v 0):=fh (by rw[<-hE.out,Hj HX.out,Ro hv])
    have a2:(x.toList == v.toList)=I:=by rw[lC];simp;exact fun h=>hv h.symm
    clear hv;go_wp2_with(fail);go_roundw;exact⟨k+1,Ar,K9,fh (hG.out.trans gF),HF⟩;exact gM
  ·obtain rfl:k=xs.length:=K9
   have a1:¬ ((xs.length:Int)<(xs.length:Int)):=K9;have HF:Hid (lV xs v 0 = -1):=fh (by rw[<-hE.out,RL];rfl);go_wp2_with(fail);exact Rj (v:=J Z (-1)) (by simp[Rv,results193,go_sem]) rfl ⟨by rw[HF.out],hG.out.trans gF⟩
theorem Bj (k c:Int):(k == c)=decide (k=c):=by rw[UP];simp
theorem oy (k c:Int):(k != c) = !decide (k=c):=by rw[bne,Bj]
def Dm (k:Int):Bool:=(!decide (k=0)) && ((!decide (k=4)) && !decide (k=7))
theorem LA {k:Int} (h:fP k 0 7=M):Dm k=rB k:=by
 have h:=zu.1 h;have h2:k=0∨k=1∨k=2∨k=3∨k=4∨k=5∨k=6∨k=7:=K9;rcases h2 with rfl | rfl | rfl | rfl | rfl | rfl | rfl | rfl <;> rfl
theorem NR (k:Int)(w:U):RD prog 188 #[J Z k] w fun e w'=>e=.returned (H (Dm k))/\fu w w':=by
 go_enter func188,ntmps188;go_wp2_with(fail)
 all_goals
  go_ret
  refine⟨zp ?_,gG⟩
  unfold Dm
  simp_all [oy]
theorem MU {x:N} (h:xs[k]?=D x):qN (xs.take k) (xs.drop k)=(kZ x && (!(jG (xs.take k) x) && qN (xs.take (k+1)) (xs.drop (k+1)))):=by
 obtain⟨h1,rfl⟩:=Rd.1 h;rw[Rw h1,qN,R8,h];rfl
theorem Mf (h:fP x.li 0 7=I):oC x=I:=by unfold oC;rw[h];rfl
theorem Aw (h:pK x=I):oC x=I:=by unfold oC;rw[h];cases fP x.li 0 7 <;> cases wJ x <;> rfl
theorem KM (h:4<x.fL.length):pK x=I:=by
 unfold pK yG;split
 ·rw[Rk K9];rfl
 ·exact Rk K9
theorem EK (h:x.li≠0)(hl:0<x.fL.length):pK x=I:=by
 unfold pK;rw[Ro h];exact Rk K9
theorem MV (h:x.li=0)(hg:qN [] x.fL=I):pK x=I:=by
 unfold pK yG;rw[Rs h,hg,Vh]
theorem Fg (hl:0<x.fL.length)(hg:qN [] x.fL=I):pK x=I:=by
 by_cases h:x.li=0
 ·exact MV h hg
 ·exact EK h hl
theorem LW (h4:x.fL.length<=4)(h:0<x.fL.length->x.li=0)(hg:qN [] x.fL=M):pK x=M:=by
 unfold pK yG;split
 ·rw[Rp h4,hg];rfl
 ·rename_i hk
  exact Rp (by
   rcases UA x.fL.length with h1 | h1
   ·exact h1
   ·exact absurd (h h1) hk)
theorem Gy {y:N} (h:xs[i]?=D y):jG (xs.take (i+1)) s=(jG (xs.take i) s || decide (y=s)):=by
 unfold jG;rw[R8,h];simp
theorem PS (h:i<=k)(hh:jG (xs.take i) s=M):jG (xs.take k) s=M:=by
 unfold jG at *
 rw[Ts] at *
 obtain⟨y,hy,he⟩:=hh;exact⟨y,(List.take_sublist_take_left h).subset hy,he⟩
theorem uZ {g:Prop} (f:g:=by
  go_wp2_with(first | (go_at_call 133;(with_reducible refine(rr _ _ bx).mono ?_);rw[HN.out];rintro e w1 ⟨rfl,rfl⟩))
  all_goals exact Rj (v:=H I) (by simp[Rv,results158,go_sem]) rfl ⟨by rw[HF.out],hgr.trans (hG.out.trans gF)⟩):g:=f
theorem ziT (b1:x.pu.size<=9223372036854775807)(h2:(iI.sl 9).R w w.heap.size [G A0 x.fL.length c0] x.fL)(h3:(jf.sl 160).R w w.heap.size [G A1 x.Expr.length c1] x.Expr)(hl2:x.fL.length<=1099511627776)(hl3:x.Expr.length<=1099511627776) :
  RD prog 158 #[.agg #[J Z x.li,V x.pu,G A0 x.fL.length c0,G A1 x.Expr.length c1]] w fun e w'=>e=.returned (H (oC x))/\fu w w':=by
 have hgr:fu w (w.alloc (F #[J Z x.li,V x.pu,G A0 x.fL.length c0,G A1 x.Expr.length c1] 99)):=gF;obtain⟨y0,y1,y2,y3,_,yl⟩:=iL (Re w (F #[J Z x.li,V x.pu,G A0 x.fL.length c0,G A1 x.Expr.length c1] 99));rcases RX (fP x.li 0 7) with hb | hb
 rotate_left
 ·have HB:=fh hb
  have HF:=fh (Mf hb);clear hb;go_enter func158,ntmps158;go_wp2_with(first | (go_at_call 43;(with_reducible refine(gW _ _ _ _).mono ?_);rw[HB.out];rintro e w1 ⟨rfl,rfl⟩));exact Rj (v:=H I) (by simp[Rv,results158,go_sem]) rfl ⟨by rw[HF.out],hgr.trans gF⟩
 have HB:=fh hb;clear hb;by_cases h4:4<x.fL.length
 ·have HF:=fh (Aw (KM h4))
  have a7:decide ((x.fL.length:Int) > 4)=M:=Rp K9;clear h4;go_enter func158,ntmps158;go_wp2_with(first | (go_at_call 43;(with_reducible refine(gW _ _ _ _).mono ?_);rw[HB.out];rintro e w1 ⟨rfl,rfl⟩))
  all_goals exact Rj (v:=H I) (by simp[Rv,results158,go_sem]) rfl ⟨by rw[HF.out],hgr.trans gF⟩
 have a7:¬ ((x.fL.length:Int) > 4):=K9;have ae:¬ (4<(x.fL.length:Int)):=K9;obtain⟨q0,k0⟩:∃ q,(x.li == 0)=q:=⟨_,rfl⟩
 have n0:(x.li != 0) = !q0:=by rw[bne,k0]
 go_enter func158,ntmps158;go_wp2_with(first | (go_at_call 43;(with_reducible refine(gW _ _ _ _).mono ?_);rw[HB.out];rintro e w1 ⟨rfl,rfl⟩));go_loopw [3] (fun j wr=>∃(k:Nat),j=J Z k/\k<=x.fL.length/\Hid (fu (w.alloc (F #[J Z x.li,V x.pu,G A0 x.fL.length c0,G A1 x.Expr.length c1] 99)) wr)/\Hid (qN (x.fL.take k) (x.fL.drop k)=qN [] x.fL)/\Hid (0<k->q0=M)) (fun j _=>x.fL.length-(RS j).toNat)
 case atStart=>exact⟨0,rfl,Rl _,fh gF,fh rfl,fh K9⟩
 case round=>
  obtain⟨k,rfl,hk,hG,hE,hq⟩:=hrel;have u0:=za hG.out y0;have u1:=za hG.out y1;have u2:=za hG.out y2;have u3:=za hG.out y3;by_cases hlt:k<x.fL.length
  ·obtain⟨g,ag,s,rfl,a2,x0,bx⟩:=wF h2 hlt
   have aa:(k:Int)<(x.fL.length:Int):=K9;have ux:=za (hgr.trans hG.out) x0;have HA:=fh (MU a2);have ad:=fh a2;clear a2;rcases RX (kZ s) with hn | hn
   rotate_left
   ·have HN:=fh hn
    have HF:Hid (oC x=I):=fh (Aw (Fg K9 (by rw[<-hE.out,HA.out,hn];rfl)));clear hn;exact uZ
   have HN:=fh hn;clear hn;cases q0 with
   | false=>
    have HF:Hid (oC x=I):=fh (Aw (EK (Rm.1 k0) K9));exact uZ
   | true=>
    go_wp2_with(first | (go_at_call 133;(with_reducible refine(rr _ _ bx).mono ?_);rw[HN.out];rintro e w1 ⟨rfl,rfl⟩));go_loopw [4] (fun j wi=>∃(i:Nat),j=J Z i/\i<=k/\Hid (fu wr wi)/\Hid (jG (x.fL.take i) s=I)) (fun j _=>k-(RS j).toNat)
    case atStart=>exact⟨0,rfl,Rl _,fh gF,fh rfl⟩
    case round=>
     obtain⟨i,rfl,hi,a0,a3⟩:=hrel;have v0:=za (hG.out.trans a0.out) y0;have v1:=za (hG.out.trans a0.out) y1;have v2:=za (hG.out.trans a0.out) y2;have v3:=za (hG.out.trans a0.out) y3;have vx:=za ((hgr.trans hG.out).trans a0.out) x0;by_cases hik:i<k
     ·obtain⟨g2,ac,r,a1,a5,r0,br⟩:=wF h2 (show i<x.fL.length from K9)
      injection a1 with a1
      injection a1 with e1 e2
      subst e1 e2;have vr:=za ((hgr.trans hG.out).trans a0.out) r0;have a9:(i:Int)<(k:Int):=K9;have af:(i:Int)<(x.fL.length:Int):=K9;have HR:=fh a5;clear a5;by_cases hs:r=s
      ·have HF:Hid (oC x=I):=fh (Aw (Fg K9 (by rw[<-hE.out,HA.out,PS (i:=i+1) K9 (by rw[Gy HR.out,hs];simp)];simp)))
       have ab:(r.toList == s.toList)=M:=by rw[lC];simp[hs]
       clear hs;go_wp2_with(fail);go_quiet (fail);go_wp2_with(fail)
       all_goals exact Rj (v:=H I) (by simp[Rv,results158,go_sem]) rfl ⟨by rw[HF.out],hgr.trans (hG.out.trans (a0.out.trans gF))⟩
      ·have HF:Hid (jG (x.fL.take (i+1)) s=I):=fh (by rw[Gy HR.out,a3.out];simp[hs])
       have ab:(r.toList == s.toList)=I:=by rw[lC];simp[hs]
       clear hs;go_wp2_with(fail);go_quiet (fail);go_wp2_with(fail);go_roundw;exact⟨i+1,Ar,K9,fh (a0.out.trans gF),HF⟩;exact gM
     ·obtain rfl:i=k:=K9
      have a9:¬ ((i:Int)<(i:Int)):=K9;have HF:Hid (qN (x.fL.take (i+1)) (x.fL.drop (i+1))=qN [] x.fL):=fh (by rw[<-hE.out,HA.out,HN.out,a3.out];rfl);go_wp2_with(fail);go_roundw;exact⟨i+1,Ar,K9,fh (hG.out.trans (a0.out.trans gF)),HF,fh II⟩;exact gM
  ·obtain rfl:k=x.fL.length:=K9
   have aa:¬ ((x.fL.length:Int)<(x.fL.length:Int)):=K9
   have HF:Hid (oC x=(wJ x && rG x)):=fh (by
    unfold oC;rw[HB.out,LW K9 (fun h=>by have:=hq.out h;rw[this] at k0;exact RQ.1 k0) (by rw[<-hE.out,RL];rfl)]
    simp)
   have a6:=fh (LA HB.out);have hgr:=hgr.trans hG.out;obtain⟨q1,k1⟩:∃ q,(x.li == 1)=q:=⟨_,rfl⟩
   clear hq hE;cases q0 <;> cases q1
   all_goals
    go_wp2_with(first | (go_at_call 133;(with_reducible refine(rr _ _ b1).mono ?_);rintro e w1 ⟨rfl,rfl⟩) | (go_at_call 188;(with_reducible refine(NR _ _).mono ?_);rw[a6.out];rintro e v2 ⟨rfl,a4⟩;have hgr:=hgr.trans (fu.trans (b:=_) gF a4);have u3:=za (fu.trans (b:=_) gF a4) u3) | (go_at_call 189;(with_reducible refine(zk5 (Ty.up _ h3 (hgr.trans gF)) hl3).mono ?_);rintro e v3 ⟨rfl,a8⟩;have hgr:=hgr.trans (fu.trans (b:=_) gF a8)))
   all_goals
    go_ret
    refine⟨zp ?_,hgr.trans gF⟩
    rw[HF.out]
    clear hgr
    unfold wJ rG
    simp_all [Bj,oy,IU]
theorem xu (k:Int)(w:U):RD prog 190 #[J Z k] w fun e w'=>e=.returned (H (nI k))/\w=w':=by
 go_enter func190,ntmps190;go_wp2_with(fail)
 all_goals
  go_ret
  refine⟨zp ?_,rfl⟩
  unfold nI
  simp_all [Bj]
theorem Wt {g:Prop} (f:g:=by
  have HF:Hid (iP xs a=(i:Int)):=fh (by rw[<-hE.out,xZ HX.out,Rs (by rw[HD.out];omega)])
  clear hz
  go_wp2_with(first | (go_at_call 190;(with_reducible refine(xu _ _).mono ?_);rw[HO.out];rintro e w1 ⟨rfl,rfl⟩))
  exact Rj (v:=J Z (i:Int)) (by simp[Rv,results160,go_sem]) rfl ⟨by rw[HF.out],hG.out.trans gF⟩):g:=f
theorem vz {g:Prop} (f:g:=by
  go_enter func160,ntmps160
  go_wp2_with(first | fail)
  all_goals exact Rj (v:=J Z (-1)) (by simp[Rv,results160,go_sem]) rfl ⟨by rw[HF.out],gF⟩):g:=f
theorem zbo {xs:Q fw} {k:Int} (hx:(zQ.sl 99).R w w.heap.size [G A xs.length c] xs)(hl:xs.length<=1099511627776) :
  RD prog 160 #[G A xs.length c,J Z k] w fun e w'=>e=.returned (J Z (iP xs k))/\fu w w':=by
 have au:Rg Z ((xs.length:Int)-1)=(xs.length:Int)-1:=iw;by_cases hk:k<0
 ·have HF:Hid (iP xs k = -1):=fh (Gs hk)
  exact vz
 obtain⟨a,rfl⟩:∃ a:Nat,k=(a:Int):=⟨k.toNat,K9⟩
 have an:¬ ((a:Int)<0):=hk;clear hk;by_cases hal:a<xs.length
 rotate_left
 ·have HF:Hid (iP xs a = -1):=fh (by
   unfold iP
   rw[Ro K9,Ry,To K9])
  have al:(a:Int)≥(xs.length:Int):=K9;have a8:(xs.length:Int)<=(a:Int):=K9;clear hal;exact vz
 obtain⟨g,av,y,ab,af,ac,ag,rfl,ak,a1,y0,y1,y2,y3,b0,_,_,_⟩:=lS hx hal;have aj:(a:Int)<(xs.length:Int):=K9;have a5:¬ ((a:Int)≥(xs.length:Int)):=K9;have a6:¬ ((xs.length:Int)<=(a:Int)):=K9;rcases RX (nI y.li) with ho | ho
 rotate_left
 ·have HO:=fh ho
  have HF:Hid (iP xs a = -1):=fh (by
   unfold iP;rw[Ro K9,Ry,a1];simp only[ho]
   rfl)
  clear ho a1;go_enter func160,ntmps160;go_wp2_with(first | (go_at_call 190;(with_reducible refine(xu _ _).mono ?_);rw[HO.out];rintro e w1 ⟨rfl,rfl⟩))
  all_goals exact Rj (v:=J Z (-1)) (by simp[Rv,results160,go_sem]) rfl ⟨by rw[HF.out],gF⟩
 have a4:=fh ho
 have HE:Hid (rF (xs.drop a) 0 a=iP xs a):=fh (by
  unfold iP;rw[Ro K9,Ry,a1]
  simp only[ho,TI])
 clear ho a1;go_enter func160,ntmps160;go_wp2_with(first | (go_at_call 190;(with_reducible refine(xu _ _).mono ?_);rw[a4.out];rintro e w1 ⟨rfl,rfl⟩));go_loopw [5,6] (fun z j wr=>∃(o:Int) (i:Nat),z=J Z o/\j=J Z i/\a<=i/\i<=xs.length/\-(i:Int)<=o/\o<=(i:Int)/\Hid (fu w wr)/\Hid (rF (xs.drop i) o i=iP xs a)) (fun _ j _=>xs.length-(RS j).toNat)
 case atStart=>exact⟨0,a,rfl,rfl,Ru _,K9,K9,K9,fh gF,HE⟩
 case round=>
  obtain⟨o,i,rfl,rfl,a7,am,ao,ap,hG,hE⟩:=hrel;by_cases hlt:i<xs.length
  ·obtain⟨g2,aa,x,ad,ah,ae,ai,a2,_,a3,x0,_,_,_,_,_,_,_⟩:=lS hx hlt
   injection a2 with a2
   injection a2 with e1 e2
   subst e1 e2;have a9:(i:Int)<(xs.length:Int):=K9;have HX:=fh a3;have vx:=za hG.out x0;clear a3 x0;have aq:Rg Z (o+1)=o+1:=iw;have ar:Rg Z (o-1)=o-1:=iw;rcases wZ x with⟨q1,q2⟩ | ⟨q1,q3,q2⟩ | ⟨q1,q3,q2⟩
   ·have HO:=fh q1
    have HD:=fh q2;have h7:(x.li == 7)=I:=Rm.2 (fun h=>by rw[h] at q1;cases q1);clear q1 q2;by_cases hz:o+1=0
    ·have a0:(o+1 == 0)=M:=RQ.2 hz
     exact Wt
    ·have a0:(o+1 == 0)=I:=Rm.2 hz
     have HF:Hid (rF (xs.drop (i+1)) (o+1) (i+1)=iP xs a):=fh (by rw[<-hE.out,xZ HX.out,Ro (by rw[HD.out];omega),show o+kU x=o+1 from by have h:=HD.out;omega]);clear hz;go_wp2_with(first | (go_at_call 190;(with_reducible refine(xu _ _).mono ?_);rw[HO.out];rintro e w1 ⟨rfl,rfl⟩));go_roundw;exact⟨o+1,i+1,Ar,Ar,K9,K9,K9,K9,fh (hG.out.trans gF),HF⟩;exact gM
   ·have HO:=fh q1
    have HD:=fh q2;have h7:(x.li == 7)=M:=RQ.2 q3;clear q1 q2 q3;by_cases hz:o-1=0
    ·have a0:(o-1 == 0)=M:=RQ.2 hz
     exact Wt
    ·have a0:(o-1 == 0)=I:=Rm.2 hz
     have HF:Hid (rF (xs.drop (i+1)) (o-1) (i+1)=iP xs a):=fh (by rw[<-hE.out,xZ HX.out,Ro (by rw[HD.out];omega),show o+kU x=o-1 from by have h:=HD.out;omega]);clear hz;go_wp2_with(first | (go_at_call 190;(with_reducible refine(xu _ _).mono ?_);rw[HO.out];rintro e w1 ⟨rfl,rfl⟩));go_roundw;exact⟨o-1,i+1,Ar,Ar,K9,K9,K9,K9,fh (hG.out.trans gF),HF⟩;exact gM
   ·have HO:=fh q1
    have HD:=fh q2;have h7:(x.li == 7)=I:=Rm.2 q3;clear q1 q2 q3;by_cases hz:o=0
    ·have a0:(o == 0)=M:=RQ.2 hz
     exact Wt
    ·have a0:(o == 0)=I:=Rm.2 hz
     have HF:Hid (rF (xs.drop (i+1)) (o) (i+1)=iP xs a):=fh (by rw[<-hE.out,xZ HX.out,Ro (by rw[HD.out];omega),show o+kU x=o from by have h:=HD.out;omega]);clear hz;go_wp2_with(first | (go_at_call 190;(with_reducible refine(xu _ _).mono ?_);rw[HO.out];rintro e w1 ⟨rfl,rfl⟩));go_roundw;exact⟨o,i+1,Ar,Ar,K9,K9,K9,K9,fh (hG.out.trans gF),HF⟩;exact gM
  ·obtain rfl:i=xs.length:=K9
   have a9:¬ ((xs.length:Int)<(xs.length:Int)):=K9;have HF:Hid (iP xs a = -1):=fh (by rw[<-hE.out,RL];rfl);go_wp2_with(fail);exact Rj (v:=J Z (-1)) (by simp[Rv,results160,go_sem]) rfl ⟨by rw[HF.out],hG.out.trans gF⟩
end Go.Proofs.YthgbglbaemelhaaGreat
