/-
  PART.
-/
import Derived.Test.YthgbglbaemelhaaGreatM0LawSlices
import Derived.RegionTactic
import Derived.Deep.RegionHeld3
import Derived.KernelRfl
set_option linter.unusedVariables false
set_option linter.unusedSimpArgs false
set_option maxRecDepth 100000
set_option maxHeartbeats 8000000
namespace Go.Proofs.YthgbglbaemelhaaGreat
open Value renaming slice->G,int->J,bool->H,string->V,ownBlock->SW
open IntKind renaming i64->C,wrap->QP
open Option renaming none->D,some->Z,map_some->Tm
open Obj renaming cells->F
open Bool renaming false->I,true->M
open Go renaming World->U,Calls->Rh,Addr->Ri,yielded->Su,bytes->Sx
open World renaming cell?->QL,frozen?->Rb
open _root_.Int renaming toNat_natCast->Ra
open List renaming length_cons->Rc,nil_append->RC,take_succ_cons->RN,cons_append->Tt
open Region renaming wanted->Rx
open RowKit renaming intOf->Ry,wrap64->Sf
open _root_.Nat renaming add_zero->RK
open _root_.Array renaming length_toList->RM
open Builtin renaming append_->Sz
open Ending renaming returned->SN
open UInt8 renaming ofNat->SQ
open BitVec renaming ofInt->Tg
open Tryz
open Go.RowKit
variable {A:X Ri}{B c j k n:Nat}{P:Program}{S:Q Nat}{W W' W0 a w:U}{b:N}{cs:Q Value}{e e' t:TypeId}{h i:Int}{xs:Q UInt8}
structure gZ (P:Program)(t e:TypeId){α:Type}(T:Ty α)(Sx:Nat):Prop where
 ht:P.underlying t=Z (.slice e)
 info:∃ i z,P.info? e=Z i/\i.zero=Z z/\i.size=T.size/\i.bytes=Sx/\z.cells.size=T.size
 pos:0<T.size
theorem Oj {α:Type} {T:Ty α} {Sx:Nat} (hE:gZ P t e T Sx){w:U}{B:Nat}{A:X Ri}{n c k:Nat}{xs:Q α}(h:(T.sl e').R w B [G A n c] xs)(hk:k<=n) :
  (∀ W,(Instr.sliceAt t (G A n c) D (Z (J C (k:Int))) D).run P W=.ok (G A k c) W)/\(T.sl e').R w B [G A k c] (xs.take k):=by
 refine⟨fun W=>?_,Pp h hk⟩;obtain⟨i,z,hi,hz,a0,a1,a3⟩:=hE.info
 have a2:n<=c/\(A=D->c=0):=by
  obtain⟨A',c',h1,h2,_,h4,_⟩:=h;injection h1 with h1 _
  injection h1 with hA hn hc
  subst hA hn hc;exact⟨h2,h4⟩
 have hA:A.map (fun a=>a.add 0)=A:=by cases A <;> simp[Addr.add]
 simp[Instr.sliceAt,Instr.slice,Instr.sliceBounds,Instr.sliceBound,asIntOf,run_underlying hE.ht,sizeOf,typeInfo,hi,hA];intro h;omega
def kA {α:Type}(T:Ty α):Prop:=∀{w B cs x},T.R w B cs x->∀ w',T.O w' cs x []
theorem zD:kA zr:=fun h _=>⟨h.1,h.2.1,h.2.2,rfl⟩
theorem FR:kA yp:=fun h _=>⟨h,rfl⟩
theorem lq:kA iH:=fun h _=>⟨h.1,h.2,rfl⟩
theorem oG {α β:Type} {T:Ty α} {QF:Ty β} (h:kA T)(k:kA QF):kA (T.prod QF):=fun⟨c1,c2,h1,h2,h3⟩ w'=>⟨c1,c2,[],[],h1,rfl,h h2 w',k h3 w'⟩
theorem wQ {α β:Type} {T:Ty α} (f:β->α)(h:kA T):kA (T.via f):=fun h1 w'=>h h1 w'
section
variable {α:Type} {T:Ty α} {e:TypeId}
theorem zh (W0 W:U):fU (T.sl e) W0 W [G D 0 0] []:=
 ⟨[],⟨D,0,[],[],rfl,World.ownsRow_nil W 0 e T.size,⟨rfl,rfl⟩,rfl⟩,by simp,by simp⟩
theorem xK (hg:ft W0 W){g:Nat}(hgW:g=W.heap.size):fU (T.sl e) W0 (W.alloc (F #[] e)) [G (Z ⟨g,0,D⟩) 0 0] []:=by
 subst hgW;refine⟨[W.heap.size],⟨_,0,[],[],rfl,?_,⟨rfl,rfl⟩,by simp[kj]⟩,by simp,fun b hb=>?_⟩
 ·exact World.ownsRow_made W #[] 0 (QX _) (QX _) (by simp)
 ·simp at hb
  subst hb;exact hg.size
theorem Ea {QJ:U} (hg:ft (QJ.alloc (F #[] e)) W)(h0:ft W0 QJ){g:Nat}(hgW:g=QJ.heap.size):fU (T.sl e) W0 W [G (Z ⟨g,0,D⟩) 0 0] []:=
 (xK h0 hgW).fx hg
theorem BU (hf:kA T){w w':U}{B g off:Nat}:∀(xs:Q α)(k:Nat),(∀ i x,xs[i]?=Z x->∃ ec,T.R w B ec x/\∀(j:Nat)(u:Value),ec[j]?=Z u->QL w ⟨g,off+(k+i)*T.size+j,D⟩=Z u)->
  ∃ cs,Rows T w' cs xs []/\cs.length=xs.length*T.size/\∀(j:Nat) (u:Value),cs[j]?=Z u->QL w ⟨g,off+k*T.size+j,D⟩=Z u
 | [],k,_=>⟨[],⟨rfl,rfl⟩,by simp,fun j u hu=>by simp at hu⟩
 | x::xs,k,h=>by
  obtain⟨ec,hR,hc⟩:=h 0 x rfl
  obtain⟨cs,h1,h2,h3⟩:=BU hf xs (k+1) (fun i y hy=>by
   obtain⟨a0,a1,a2⟩:=h (i+1) y (by simpa using hy)
   exact⟨a0,a1,fun j u hu=>by have:=a2 j u hu;rw[show k+(i+1)=k+1+i from by omega] at this;exact this⟩)
  have hl:=T.kZ hR;refine⟨ec++cs,⟨ec,cs,[],[],rfl,rfl,hf hR _,h1⟩,by rw[QR,hl,h2,Rc,Ur,TV,TL],fun j u hu=>?_⟩;rw[List.getElem?_append] at hu;split at hu
  ·exact hc j u hu
  ·rename_i hj
   have:=h3 _ u hu;rw[Ur,TV] at this;rw[hl] at hj;rw[hl] at this;rw[show off+k*T.size+j=off+(k*T.size+T.size)+(j-T.size) from by omega];exact this
section
variable {P:Program} {t ty:TypeId} {Sx:Nat}
theorem tW {g:Prop} (f:g:=by
  refine⟨by cases A' <;> simp[kj],Rs.2 ⟨hN2,hSy,fun a ha b hb heq=>hd a (Rr _ ha) (heq ▸ hb)⟩,fun a ha b hb heq=>?_⟩
  subst heq
  rcases hA' a ha with h | h
  ·rcases Q7.1 hb with hb | hb
   ·exact hN3 a h a hb rfl
   ·exact hd a (Rm _ h) hb
  ·subst h
   rcases Q7.1 hb with hb | hb
   ·exact absurd (hrow.lt _ hb) (TS _)
   ·exact absurd (hr.lt _ hb) (TS _)):g:=f
theorem ui {g:Prop} (f:g:=by
  rcases hown.2 with⟨rfl,h0⟩ | ⟨g,cap,cur,rfl,_⟩
  ·exact⟨D,0,by rw[h0],by simp[kj]⟩
  ·refine⟨_,cap,rfl,fun b hb=>?_⟩
   simp[kj] at hb
   subst hb
   rcases hat with h | h
   ·left
    cases A with
    | none=>simp[SW] at h
    | some a=>simp[SW] at h;simp[kj,h]
   ·right
    simpa[SW] using h):g:=f
theorem Bt (hE:gZ P t e T Sx){W0 W:U}{hi0:Nat}{A:X Ri}{n c:Nat}{xs:Q α}(h:kC (T.sl e) W0 hi0 W [G A n c] xs)
  {ad:Ri} {m c':Nat} {ys:Q α} {news:Q Value} {Sy:Q Nat} (hr:Rows T W news ys Sy) (hm:m=ys.length) (hcell:∀ j u,news[j]?=Z u->W.cell? (ad.add j)=Z u)
  (hSy:Sy.Nodup) {m0:Nat} (hm0:m0<=W.heap.size) (hSy0:∀ b∈Sy,W0.heap.size<=b/\hi0<=b/\m0<=b)
  {L:Nat} (hL:L=n+m) (hb:L*Sx<=140737488355328) (h63:L<=9223372036854775807) :
  ∃ A' c'' W',(Sz #[t,t] ty #[G A n c,G (Z ad) m c']).run P W=.ok (G A' L c'') W'/\(∃ row,W.grownBy W' row/\∀ k,row=Z k->W0.heap.size<=k/\k<hi0)/\oA (T.sl e) W0 hi0 m0 W' [G A' L c''] (xs++ys):=by
 subst hL;obtain⟨S,hO,hN,a0⟩:=h;have ag:∀ b∈S,W0.heap.size<=b:=fun b hb=>(a0 b hb).1;have hd:∀ b∈S,b∉Sy:=fun b hb hm=>by have h1:=(a0 b hb).2;have h2:=(hSy0 b hm).2.1;omega
 obtain⟨A1,c1,a6,S',hv,ab,hrow,rfl⟩:=hO;injection hv with hv _
 injection hv with hA hn hc
 subst hA hc;have a8:n=xs.length:=hn;obtain⟨i,z,hi,hz,a5,aa,ae⟩:=hE.info;have a7:news.length=m*T.size:=by rw[hr.len,hm]
 obtain⟨v',W',a9,hown,a1,_,hat⟩:=run_append_own_at (P:=P) W 0 t ty e i z T.size Sx hE.ht hi hz a5 aa ae hE.pos (G A xs.length c) xs.length a6 ab ad m c' news a7 hcell hr.one
  (by rw[<-a8];simpa[maxLen] using h63) (by rw[<-a8];exact hb) (QX _)
 subst a8
 have hG:∃ row,W.grownBy W' row/\∀ k,row=Z k->W0.heap.size<=k/\k<hi0:=⟨_,a1,fun k hk=>by
  cases A with
  | none=>simp[SW] at hk
  | some a=>
   simp[SW] at hk
   exact a0 k (by simp[kj,hk])⟩
 -- the elements' own blocks have not turned
 have a2:∀ k,k<W.heap.size->(∀ b∈kj A,k≠b)->W'.heap[k]?=W.heap[k]?:=fun k hk hne=>a1.block k hk (by
  cases A with
  | none=>simp[SW]
  | some a=>simpa[SW,kj] using hne)
 rw[Rs] at hN;obtain⟨af,hN2,hN3⟩:=hN;have a4:Rows T W' a6 xs S':=hrow.fJ (fun k hk=>a2 k (hrow.lt k hk) (fun b hb=>(hN3 b hb k hk).symm));have ac:Rows T W' news ys Sy:=hr.fJ (fun k hk=>a2 k (hr.lt k hk) (fun b hb heq=>hd b (Rm _ hb) (heq ▸ hk)))
 have a3:∃ A' c'',v'=G A' (xs.length+m) c''/\∀ b∈kj A',b∈kj A∨b=W.heap.size:=by
  exact ui
 obtain⟨A',c'',rfl,hA'⟩:=a3;refine⟨A',c'',W',a9,hG,kj A'++(S'++Sy),⟨A',c'',a6++news,S'++Sy,by rw[QR,hm],by rw[QR,<-hm];exact hown,a4.app ac,rfl⟩,?_,?_⟩
 ·rw[Rs]
  exact tW
 ·intro b hb
  rcases Q7.1 hb with hb | hb
  ·rcases hA' b hb with h | h
   ·exact .inl (a0 b (Rm _ h))
   ·rw[h];exact .inr hm0
  ·rcases Q7.1 hb with hb | hb
   ·exact .inl (a0 b (Rr _ hb))
   ·exact .inr (hSy0 b hb).2.2
theorem Dy (hE:gZ P t e T Sx){W0 W:U}{A:X Ri}{n c:Nat}{xs:Q α}(h:fU (T.sl e) W0 W [G A n c] xs)(c':Nat) :
  (Sz #[t,t] ty #[G A n c,G D 0 c']).run P W=.ok (G A n c) W:=by
 obtain⟨S,hO,hN,a7⟩:=h;obtain⟨A1,c1,a6,S',hv,a2,a3,rfl⟩:=hO;injection hv with hv _
 injection hv with hA hn hc
 subst hA hc hn;obtain⟨i,z,hi,hz,a0,a8,a9⟩:=hE.info;rcases a2.2 with⟨hv,h0⟩ | ⟨g,a4,a5,hv,_,_,a1,_⟩
 ·rw[hv]
  simp[Sz,run_underlying hE.ht,sizeOf,typeInfo,hi,Builtin.lenOf,Builtin.firstCells]
 ·rw[hv]
  simp[Sz,run_underlying hE.ht,sizeOf,typeInfo,hi,Builtin.lenOf,Builtin.firstCells,a1,storeCells]
theorem Ja (hE:gZ P t e T Sx)(hf:kA T){W0 W:U}{hi0 m0:Nat}(hm0:m0<=W.heap.size){A:X Ri}{n c:Nat}{xs:Q α}(h:kC (T.sl e) W0 hi0 W [G A n c] xs)
  {B:Nat} {e':TypeId} {A2:X Ri} {m c2:Nat} {ys:Q α} (hy:(T.sl e').R W B [G A2 m c2] ys)
  {L:Nat} (hL:L=n+m) (hb:L*Sx<=140737488355328) (h63:L<=9223372036854775807) :
  ∃ A' c'' W',(Sz #[t,t] ty #[G A n c,G A2 m c2]).run P W=.ok (G A' L c'') W'/\(∃ row,W.grownBy W' row/\∀ k,row=Z k->W0.heap.size<=k/\k<hi0)/\oA (T.sl e) W0 hi0 m0 W' [G A' L c''] (xs++ys):=by
 obtain⟨A3,c3,hv,h1,h2,h3,h4⟩:=hy;injection hv with hv _
 injection hv with hA hn hc
 subst hA hn hc;rcases Ue ys.length with h0 | h0
 ·have a1:ys = []:=TJ h0
  subst a1;subst hL;cases A2 with
  | none=>exact⟨A,c,W,Dy hE h.fresh _,⟨D,World.grownBy.refl W D,fun k hk=>by simp at hk⟩,by
    obtain⟨S,h1,h2,h3⟩:=h
    exact⟨S,by simpa using h1,h2,fun b hb=>.inl (h3 b hb)⟩⟩
  | some ad=>
   exact Bt hE h (ad:=ad) (m:=0) (news:=[]) (ys:=[]) (Sy:=[]) ⟨rfl,rfl⟩ rfl (fun j u hu=>by simp at hu) (by simp) hm0 (by simp) rfl hb h63
 ·obtain⟨g,off,rfl,a2,h5⟩:=h4 h0
  obtain⟨cs,hr,hl,hc⟩:=BU (w':=W) hf (g:=g) (off:=off) ys 0 (fun i x hx=>by
   obtain⟨ec,hR,a0⟩:=h5 i x hx
   exact⟨ec,hR,fun j u hu=>by rw[Rk];exact a0 j u hu⟩)
  exact Bt hE h (ad:=⟨g,off,D⟩) hr rfl (fun j u hu=>by rw[TM];simpa using hc j u hu) (by simp) hm0 (by simp) hL hb h63
end
section
variable {P:Program} {t:TypeId} {Sx:Nat} {ops:Array Oper} {rest:Q Oper} {o:Oper} {a:Act} {QI:Exit->Act->U->Prop} {K:Act->U->Prop}
theorem wA {v2 v':Value} (s x:Operand)(ho:o.op=.call { callee:=.builtin .append,args:=#[s,x],argTypes:=#[t,t] })(hs:a.eval s=G A n c)(hx:a.eval x=v2)
  (hrun:(Sz #[t,t] o.type #[G A n c,v2]).run P W=.ok v' W') (h:K (a.put o.dst v') W'):o.wp P a W K QI:=by
 unfold Oper.wp execOp;simp only[ho,resolve,invoke,builtin,Sem.run_bind,Sem.run_pure,Result.andThen_ok,List.map_toArray,RS,List.map_nil,hs,hx,hrun];exact h
theorem uX {g:Prop} (f:g:=by
  obtain⟨os,d,rfl⟩:=hg.grown hgr (fun k hk=>(hrow k hk).1)
  exact wA s x ho hs hx hrun (hKK _ _ (hK A' c'' os d (hF.fresh (Q8 _))))):g:=f
theorem Dx (hgd:o.guard=D)(s x:Operand)(hE:gZ P t e T Sx)(hf:kA T){W0 W:U}{A:X Ri}{n c:Nat}{xs:Q α}(h:fU (T.sl e) W0 W [G A n c] xs)(hg:ft W0 W)
  {B:Nat} {e':TypeId} {A2:X Ri} {m c2:Nat} {ys:Q α} (hy:(T.sl e').R W B [G A2 m c2] ys)
  (ho:o.op=.call { callee:=.builtin .append,args:=#[s,x],argTypes:=#[t,t] }) (hs:a.eval s=G A n c) (hx:a.eval x=G A2 m c2)
  {L:Nat} (hL:L=n+m) (hb:L*Sx<=140737488355328) (h63:L<=9223372036854775807)
  (hK:∀ A' c'' os d,fU (T.sl e) W0 (fx W0 os d) [G A' L c''] (xs++ys)->wpList P ops QI rest (a.put o.dst (G A' L c'')) (fx W0 os d)):wpList P ops QI (o::rest) a W:=
 Uw hgd fun K hKK=>by
  obtain⟨A',c'',W',hrun,⟨row,hgr,hrow⟩,hF⟩:=Ja (P:=P) (ty:=o.type) hE hf hg.size h.nH hy hL hb h63;exact uX
theorem Jy (hE:gZ P t e T Sx){W0 W We:U}{ty:TypeId}{hi0 g cc m0:Nat}(hm0:m0<=W.heap.size)(hm1:m0<=We.heap.size){A:X Ri}{n c:Nat}{xs:Q α}(h:kC (T.sl e) W0 hi0 W [G A n c] xs)
  {ec:Q Value} {y:α} (hy:fU T We W ec y) (hhi:hi0<=We.heap.size) (hWe:W0.heap.size<=We.heap.size) (hcell:∀(j:Nat) (u:Value),ec[j]?=Z u->QL W ⟨g,j,D⟩=Z u)
  {L:Nat} (hL:L=n+1) (hb:L*Sx<=140737488355328) (h63:L<=9223372036854775807) :
  ∃ A' c'' W',(Sz #[t,t] ty #[G A n c,G (Z ⟨g,0,D⟩) 1 cc]).run P W=.ok (G A' L c'') W'/\(∃ row,W.grownBy W' row/\∀ k,row=Z k->W0.heap.size<=k/\k<hi0)/\oA (T.sl e) W0 hi0 m0 W' [G A' L c''] (xs++[y]):=by
 obtain⟨Sy,hO,a1,a0⟩:=hy
 exact Bt (P:=P) (ty:=ty) hE h (ad:=⟨g,0,D⟩) (m:=1) (c':=cc) (ys:=[y]) (news:=ec) (Sy:=Sy)
   ⟨ec,[],Sy,[],by simp,by simp,hO,rfl,rfl⟩ rfl
   (fun j u hu=>by rw[TM,Rk];exact hcell j u hu) a1 hm0 (fun b hb=>⟨Rj hWe (a0 b hb),Rj hhi (a0 b hb),Rj hm1 (a0 b hb)⟩)
   hL hb h63
theorem I8 (hgd:o.guard=D)(s x:Operand)(hE:gZ P t e T Sx){W0 W We:U}{hi0 g cc:Nat}{A:X Ri}{n c:Nat}{xs:Q α}(h:kC (T.sl e) W0 hi0 W [G A n c] xs)(hg:ft W0 W)
  {ec:Q Value} {y:α} (hy:fU T We W ec y) (hhi:hi0<=We.heap.size) (hWe:W0.heap.size<=We.heap.size)
  (ho:o.op=.call { callee:=.builtin .append,args:=#[s,x],argTypes:=#[t,t] }) (hs:a.eval s=G A n c) (hx:a.eval x=G (Z ⟨g,0,D⟩) 1 cc)
  (hcell:∀(j:Nat) (u:Value),ec[j]?=Z u->QL W ⟨g,j,D⟩=Z u)
  {L:Nat} (hL:L=n+1) (hb:L*Sx<=140737488355328) (h63:L<=9223372036854775807)
  (hK:∀ A' c'' os d,fU (T.sl e) W0 (fx W0 os d) [G A' L c''] (xs++[y])->wpList P ops QI rest (a.put o.dst (G A' L c'')) (fx W0 os d)):wpList P ops QI (o::rest) a W:=
 Uw hgd fun K hKK=>by
  obtain⟨A',c'',W',hrun,⟨row,hgr,hrow⟩,hF⟩:=Jy (P:=P) (ty:=o.type) hE hg.size hWe h hy hhi hWe hcell hL hb h63;exact uX
theorem LW (hf:kA T){We W W1:U}{B:Nat}{cs:Q Value}{x:α}(h:T.R W1 B cs x):fU T We W cs x:=⟨[],hf h W,by simp,by simp⟩
theorem xy (hgd:o.guard=D)(s x:Operand)(hE:gZ P t e T Sx)(hf:kA T){W0 W W1:U}{hi0 B g cc:Nat}{A:X Ri}{n c:Nat}{xs:Q α}(h:kC (T.sl e) W0 hi0 W [G A n c] xs)(hg:ft W0 W)
  {ec:Q Value} {y:α} (hy:T.R W1 B ec y)
  (ho:o.op=.call { callee:=.builtin .append,args:=#[s,x],argTypes:=#[t,t] }) (hs:a.eval s=G A n c) (hx:a.eval x=G (Z ⟨g,0,D⟩) 1 cc)
  (hcell:∀(j:Nat) (u:Value),ec[j]?=Z u->QL W ⟨g,j,D⟩=Z u)
  {L:Nat} (hL:L=n+1) (hb:L*Sx<=140737488355328) (h63:L<=9223372036854775807)
  (hK:∀ A' c'' os d,fU (T.sl e) W0 (fx W0 os d) [G A' L c''] (xs++[y])->wpList P ops QI rest (a.put o.dst (G A' L c'')) (fx W0 os d)):wpList P ops QI (o::rest) a W:=
 I8 hgd s x hE (h.fresh.nH) hg (We:=W) (LW hf hy) (Q8 _) hg.size ho hs hx hcell hL hb h63 hK
end
section
variable {P:Program} {t:TypeId} {Sx:Nat} {ops:Array Oper} {rest:Q Oper} {o:Oper} {a:Act} {QI:Exit->Act->U->Prop}
theorem oA.up {α:Type} {T:Ty α} {w1 w2:U} {hi:Nat} {x:α} (h:oA T w hi n w1 cs x)(hg:ft w1 w2):oA T w hi n w2 cs x:=by
 obtain⟨S,h1,h2,h3⟩:=h;exact⟨S,T.jg h1 hg,h2,h3⟩
theorem oA.read {α:Type}{T:Ty α}{w w1:U}{hi n:Nat}{cs:Q Value}{x:α}(h:oA T w hi n w1 cs x):T.R w1 w1.heap.size cs x:=by
 obtain⟨S,h1,_,_⟩:=h;exact T.read h1
end
end
def mX:Ty UInt8 where
 size:=1
 R:=fun _ _ cs x=>cs = [J .u8 (x.toNat:Int)]
 O:=fun _ cs x S=>cs = [J .u8 (x.toNat:Int)]/\S = []
 kZ:=by rintro _ _ _ _ rfl;rfl
 ju:=by rintro _ _ _ _ ⟨rfl,_⟩;rfl
 lB:=by rintro _ _ _ _ ⟨rfl,_⟩ u hu;simp at hu;subst hu;rfl
 lU:=by rintro _ _ _ _ rfl u hu;simp at hu;subst hu;rfl
 iG:=by rintro _ _ _ _ _ _ h _ _;exact h
 gD:=by rintro _ _ _ _ _ h _;exact h
 ja:=by rintro _ _ _ _ ⟨_,rfl⟩ k hk;simp at hk
 OR:=by rintro _ _ _ _ _ ⟨h1,_⟩ _;exact h1
theorem ze:kA mX:=fun h _=>⟨h,rfl⟩
theorem GR {x:Int} (h0:0<=x)(h1:x<256):mX.R w B [J .u8 x] (SQ x.toNat):=by
 obtain⟨n,rfl⟩:=Rl h0;show [J .u8 (n:Int)] = [J .u8 (((SQ (n:Int).toNat).toNat:Nat):Int)]
 have:(SQ (n:Int).toNat).toNat=n:=by
  rw[Ra];exact UInt8.toNat_ofNat_of_lt' (by show n<256;omega)
 rw[this]
theorem vh {g:Prop} (f:g:=by
  rw[hi] at h
  simp only[Tm,Rv,SM] at h
  exact⟨i,_,rfl,h.1,h.2.1,h.2.2,rfl⟩):g:=f
theorem Dm:gZ prog 22 5 mX 1:=by
 refine⟨underlying22,?_,by decide⟩;have h:(prog.info? 5).map (fun i=>(i.zero,i.size,i.bytes))=Z (Z (J .u8 0),1,1):=by kernel_rfl
 cases hi:prog.info? 5 with
 | none=>rw[hi] at h;simp at h
 | some i=>
  exact vh
theorem E5 (h:(mX.sl e').R w B [G A n c] xs) :
  (convert 22 9 (G A n c)).run prog w=.ok (V ⟨xs.toArray⟩) w:=by
 obtain⟨A',c',h1,h2,h3,h4,h5⟩:=id h;simp only[TB,St,TO] at h1;obtain⟨rfl,rfl,rfl⟩:=h1;rcases Ue xs.length with h0 | h0
 ·cases xs with
  | cons x xs=>simp at h0
  | nil=>
   cases A with
   | none=>exact run_convert_bytes_nil w _ _ underlying22 underlying5 _ _ _ underlying9
   | some a=>
    rw[run_convert_bytes_string w _ _ _ _ _ _ underlying22 underlying5 underlying9];rw[run_bytesToString w a _ _ [] (by simp[loadCells,loadCellsFrom,Sem.run_pure])];rfl
 ·obtain⟨g,a0,rfl,hg,h6⟩:=h5 h0
  have hr:=run_convert_bytes_arg (P:=prog) w 22 5 underlying22 underlying5 g a0 xs.length c (xs.map fun b=>(b.toNat:Int)) (by simp) (by
   intro i hi;obtain⟨ec,h7,h8⟩:=h6 i _ (QW hi);obtain rfl:ec=_:=h7;have:=h8 0 _ rfl;rw[show a0+i*mX.size+0=a0+i from by show a0+i*1+0=_;omega] at this;rw[this]
   simp[List.getD,QW hi]) _ underlying9
  rw[hr];have:((fun n:Int=>SQ n.toNat) ∘ fun b:UInt8=>(b.toNat:Int))=id:=by funext b;simp
  simp[strOfNums,this]
section
variable {α:Type}
def sh (cnt:α->Nat)(xs:Q α):Nat:=(xs.map cnt).sum
variable {mk:α->Int->α} {cnt:α->Nat}
theorem Gl (x:α)(xs:Q α):sh cnt (x::xs)=cnt x+sh cnt xs:=by simp[sh]
theorem MV {xs:Q α} {i:Nat} {x:α} (h:xs[i]?=Z x):sh cnt (xs.take (i+1))=sh cnt (xs.take i)+cnt x:=by
 rw[vO h];simp[sh]
theorem Kd (xs:Q α)(i:Nat):sh cnt (xs.take i)<=sh cnt xs:=by
 induction xs generalizing i with
 | nil=>simp[sh]
 | cons x xs ih=>
  cases i with
  | zero=>simp[sh]
  | succ i=>rw[RN,Gl,Gl];have:=ih i;omega
end
def xe (cur:Array Value)(p:Nat):Nat->Q Value->Array Value
 | _,[]=>cur
 | j,v::vs=>xe (cur.setIfInBounds (p+j) v) p (j+1) vs
def tJ (l:Q Value)(p:Nat):Nat->Q Value->Q Value
 | _,[]=>l
 | j,v::vs=>tJ (l.set (p+j) v) p (j+1) vs
theorem EC (vs:Q Value):∀(cur:Array Value)(p j:Nat),(xe cur p j vs).toList=tJ cur.toList p j vs:=by
 induction vs with
 | nil=>intro cur p j;rfl
 | cons v vs ih=>intro cur p j;simp only[xe,tJ];rw[ih,Array.toList_setIfInBounds]
theorem KY (vs:Q Value):∀(l:Q Value)(p j:Nat),(tJ l p j vs).length=l.length:=by
 induction vs with
 | nil=>intro l p j;rfl
 | cons v vs ih=>intro l p j;simp only[tJ];rw[ih,Rn]
theorem NN (vs:Q Value)(cur:Array Value)(p j:Nat):(xe cur p j vs).size=cur.size:=by
 rw[<-RM,EC,KY,RM]
theorem Po (vs:Q Value):∀(l:Q Value)(p j:Nat),p+j+vs.length<=l.length->tJ l p j vs=l.take (p+j)++(vs++l.drop (p+j+vs.length)):=by
 induction vs with
 | nil=>intro l p j _;simp[tJ]
 | cons v vs ih=>
  intro l p j h;simp only[Rc] at h;have hl:(l.take (p+j)).length=p+j:=by rw[Sj];omega
  simp only[tJ];rw[ih _ _ _ (by rw[Rn];omega),Rc,show p+(j+1)=p+j+1 from rfl,List.drop_set_of_lt (by omega),RH,List.take_set_of_le (Q8 _),Tp (by omega)];simp only[Option.toList_some,Rw,Tt,RC];rw[show p+j+1+vs.length=p+j+(vs.length+1) from by omega]
def setRow (w:U)(g p:Nat):Nat->Q Value->U
 | _,[]=>w
 | j,v::vs=>setRow (w.setCell ⟨g,p+j,D⟩ v) g p (j+1) vs
theorem NP (vs:Q Value):∀(w:U)(g p j:Nat)(cur:Array Value)(e:TypeId),w.heap[g]?=Z (F cur e (0,0))->(setRow w g p j vs).heap[g]?=Z (F (xe cur p j vs) e (0,0)):=by
 induction vs with
 | nil=>intro w g p j cur e h;exact h
 | cons v vs ih=>intro w g p j cur e h;exact ih _ _ _ _ _ _ (zN h _ _)
theorem KZ (vs:Q Value){S:Q Nat}{g:Nat}(hg:g∈S):∀(w0 w:U)(p j:Nat),fw S w0 w->fw S w0 (setRow w g p j vs):=by
 induction vs with
 | nil=>intro w0 w p j h;exact h
 | cons v vs ih=>intro w0 w p j h;exact ih _ _ _ _ (h.setCell (p:=⟨g,p+j,D⟩) hg v)
theorem JJ (vs:Q Value):∀(w:U)(g p j k:Nat),k≠g->(setRow w g p j vs).heap[k]?=w.heap[k]?:=by
 induction vs with
 | nil=>intro w g p j k _;rfl
 | cons v vs ih=>intro w g p j k hk;exact(ih _ _ _ _ _ hk).trans (Uz w ⟨g,p+j,D⟩ v k hk)
def cut (W:U)(n:Nat):U:={ W with heap:=W.heap.extract 0 n }
theorem NK (h:n<=W.heap.size):(cut W n).heap.size=n:=by
 simp only[cut,Array.size_extract];omega
theorem PB {i:Nat} (h:n<=W.heap.size)(hi:i<n):(cut W n).heap[i]?=W.heap[i]?:=by
 simp only[cut];rw[Array.getElem?_extract,Q5 (by omega),Rk]
theorem ft.cut {w W:U}{n:Nat}(h:ft w W)(hn:w.heap.size<=n)(h2:n<=W.heap.size):ft w (cut W n):=by
 have hb:=h.below;exact ft.jI ⟨hb.os,hb.tape,hb.output,by rw[NK h2];exact hn,fun k hk=>by rw[PB h2 (by omega)];exact hb.block k hk⟩
theorem jY {b:U} (h:ft a b){p:Ri}{v:Value}(hp:a.cell? p=Z v):b.cell? p=Z v:=by
 obtain⟨os,d,rfl⟩:=h;exact zd hp os d
structure iM (w W:U)(k:Nat):Prop where
 lo:w.heap.size<=k
 fx:ft w W
 at_:∃(A:X Ri) (n c:Nat) (i h:Int) (xs:Q UInt8),W.heap[k]?=Z (F #[G A n c,J C i,J C h] 118 (0,0))/\0<=i/\fD i/\fD h/\(mX.sl 5).R w w.heap.size [G A n c] xs
theorem iM.lt (h:iM w W k):k<W.heap.size:=by
 obtain⟨_,_,_,_,_,_,h1,_⟩:=h.at_;exact(blt h1)
theorem iM.to (h:iM w W k)(hb:W'.heap[k]?=W.heap[k]?)(hg:ft w W'):iM w W' k:=by
 obtain⟨A,n,c,i,h',xs,h1,h2⟩:=h.at_;exact⟨h.lo,hg,A,n,c,i,h',xs,by rw[hb];exact h1,h2⟩
theorem iM.more (h:iM w W k)(hg:ft W W'):iM w W' k:=h.to (hg.block h.lt) (h.fx.trans hg)
theorem iM.only (h:iM w W k)(hs:fw S W W')(hk:k∉S)(hS:∀ b∈S,w.heap.size<=b):iM w W' k:=h.to (hs.block k h.lt hk) (hs.fx h.fx hS)
theorem iM.below {w W W':U}{k lo:Nat}(h:iM w W k)(hb:Below lo W W')(hk:k<lo):iM w W' k:=
 h.to (hb.block k hk) (ft.jI (h.fx.below.trans (hb.mono (by have:=h.lo;omega))))
theorem fw.below {lo:Nat} (h:fw S a W)(hb:Below lo W W')(hl:a.heap.size<=lo):fw S a W':=
 ⟨hb.os.trans h.os,hb.tape.trans h.tape,hb.output.trans h.output,Rj h.size hb.size,fun i hi hn=>(hb.block i (by omega)).trans (h.block i hi hn)⟩
section
variable {α:Type} {T:Ty α} {e:TypeId} {P:Program} {t:TypeId} {Sx:Nat} {ops:Array Oper} {rest:Q Oper} {o:Oper} {a:Act} {QI:Exit->Act->U->Prop} {K:Act->U->Prop}
end
theorem LH (ht:P.underlying t=Z (.int .u8)):Bg P t mX:=by
 intro QG a3 W a0 a2 a1 cs x h;obtain⟨n,rfl,_,hw⟩:=DataW.trod_int ht h;have h1:0<=n/\n<=255:=by simpa[Lit.wf,IntKind.min,IntKind.max,IntKind.signed,IntKind.bits] using hw
 exact⟨_,GR h1.1 (by omega)⟩
theorem AZ (a:Int):∃ n:Nat,bits .and C a 255=(n:Int)/\n<256:=by
 refine⟨((Tg 64 a &&& Tg 64 255).toNat),?_,?_⟩
 ·show QP C ((Tg 64 a &&& Tg 64 255).toNat:Int)=_
  rw[BitVec.toNat_and,show (Tg 64 255).toNat=2 ^ 8-1 from rfl,TG];exact iw
 ·rw[BitVec.toNat_and,show (Tg 64 255).toNat=2 ^ 8-1 from rfl,TG]
  omega
theorem MY {a b c:Value} (h:W.heap[k]?=Z (F #[a,b,c] 118 (0,0))) :
  QL W ⟨k,0,D⟩=Z a/\QL W ⟨k,1,D⟩=Z b/\QL W ⟨k,2,D⟩=Z c/\(∀ j,Rb W ⟨k,j,D⟩=I):=by
 refine⟨?_,?_,?_,fun j=>by simp[Rb,h]⟩
 all_goals
  rw[RV W k _ _ _ (0,0) h]
  rfl
theorem Pt (a b:Int):fD (bits .and C a b):=by
 show fD (QP C _);rw[IntKind.wrap_i64];constructor <;> omega
theorem yX (n:Int):fD (Sf n):=by
 unfold Sf;constructor <;> omega
structure lA (w W0 W:U)(k:Nat)(A:X Ri)(n c:Nat)(i h:Int):Prop where
 lo:w.heap.size<=k
 fx:ft w W
 only:fw [k] W0 W
 iU:W.heap[k]?=Z (F #[G A n c,J C i,J C h] 118 (0,0))
 i0:0<=i
 i1:fD i
 h1:fD h
 read:∃ xs,(mX.sl 5).R w w.heap.size [G A n c] xs
theorem lA.out (QG:lA w W0 W k A n c i h):iM w W k/\fw [k] W0 W:=by
 obtain⟨xs,hx⟩:=QG.read;exact⟨⟨QG.lo,QG.fx,A,n,c,i,h,xs,QG.iU,QG.i0,QG.i1,QG.h1,hx⟩,QG.only⟩
theorem lA.sv {h':Int} (QG:lA w W0 W k A n c i h)(hb:fD h'):lA w W0 (W.setCell ⟨k,2,D⟩ (J C h')) k A n c i h':=
 ⟨QG.lo,QG.fx.setRow (p:=⟨k,2,D⟩) QG.lo _,QG.only.setCell (p:=⟨k,2,D⟩) (by simp) _,zN QG.iU 2 _,QG.i0,QG.i1,hb,QG.read⟩
theorem lA.xu {i':Int} (QG:lA w W0 W k A n c i h)(hb0:0<=i')(hb:fD i'):lA w W0 (W.setCell ⟨k,1,D⟩ (J C i')) k A n c i' h:=
 ⟨QG.lo,QG.fx.setRow (p:=⟨k,1,D⟩) QG.lo _,QG.only.setCell (p:=⟨k,1,D⟩) (by simp) _,zN QG.iU 1 _,hb0,hb,QG.h1,QG.read⟩
theorem lA.drewN {w W0 W:U}{k:Nat}{A:X Ri}{n c:Nat}{i h:Int}(QG:lA w W0 W k A n c i h)(m:Nat):lA w W0 (W.drewN m) k A n c i h:=
 ⟨QG.lo,QG.fx.drewN m,QG.only.trans ((ft.drewN (ft.refl _) m).only _),QG.iU,QG.i0,QG.i1,QG.h1,QG.read⟩
theorem zkC (hC:iM w W k):Rh prog 77 #[.pointer (Z ⟨k,0,D⟩)] W fun e W'=>∃ x:Nat,e=.returned (J C (x:Int))/\x<256/\iM w W' k/\fw [k] W W':=by
 obtain⟨a6,a2,A,n,c,i,h,xs,hk,a3,a5,hh,hx⟩:=hC;have H0:lA w W W k A n c i h:=⟨a6,a2,fw.refl _ _,hk,a3,a5,hh,xs,hx⟩
 obtain⟨_,_,hv,ah,ab⟩:=lu hx;injection hv with hA hn hc
 subst hA hn hc;obtain⟨a8,a9,aa,a1⟩:=MY hk;have ac:=a1 1;have ad:=a1 2;go_enter func77,ntmps77;go_wp2_with(fail);go_quiet (fail);go_wp2_with(fail);by_cases hlt:i<xs.length
 ·obtain⟨j,rfl⟩:=Rl a3
  obtain⟨g,ai,x,ec,rfl,ae,a7,rfl,a0⟩:=nP hx (k:=j) (by omega);have a4:=jY a2 (a0 0 _ rfl);simp only[show mX.size=1 from rfl,Tq,RK] at a4;have af:g≠k:=by omega
  have ag:=x.toNat_lt;clear a0 a7;go_quiet (fail);go_wp2_with(fail);go_quiet (fail);go_wp2_with(fail);go_ret;refine⟨_,Sg (fun z=>SN (J C z)) (AZ _).choose_spec.1,(AZ _).choose_spec.2,?_,?_⟩
  ·exact(((H0.sv (yX _)).xu (by omega) ⟨by omega,by omega⟩).drewN _).out.1
  ·exact(((H0.sv (yX _)).xu (by omega) ⟨by omega,by omega⟩).drewN _).out.2
 ·go_quiet (fail)
  go_wp2_with(fail);go_ret;refine⟨_,Sg (fun z=>SN (J C z)) (AZ _).choose_spec.1,(AZ _).choose_spec.2,?_,?_⟩
  ·exact((H0.sv (yX _)).drewN _).out.1
  ·exact((H0.sv (yX _)).drewN _).out.2
theorem yI {os:Array Obj} {d:Nat} (b:Obj)(n:Nat)(h:n=w.heap.size+os.size:=by rfl):((fx w os d).alloc b).heap[n]?=Z b:=by
 subst h;have:=QO (fx w os d) b;rwa [lr] at this
theorem vi {g:Prop} (f:g:=by
  go_ret
  refine⟨_,rfl,?_⟩
  exact⟨by omega,gG,_,_,_,0,h,xs,yI _ _,SK _,⟨by omega,by omega⟩,hh,hx⟩):g:=f
theorem zxa (hx:(mX.sl 5).R w w.heap.size [G A n c] xs)(hl:xs.length<=1099511627776):Rh prog 32 #[G A n c] w fun e W'=>∃ k,e=.returned (.pointer (Z ⟨k,0,D⟩))/\iM w W' k:=by
 have a7:=hx;obtain⟨_,_,hv,a9,a5⟩:=lu hx;injection hv with hA hn hc
 subst hA hn hc;go_enter func32,ntmps32;go_wp2_with(fail);go_loopw [3,4] (fun a b wr=>∃(h:Int) (j:Nat),a=J C h/\b=J C j/\j<=xs.length/\fD h/\Hid (ft w wr)) (fun _ b _=>xs.length-(Ry b).toNat)
 case atStart=>exact⟨33147+xs.length,0,rfl,rfl,QX _,⟨by omega,by omega⟩,fh (ft.refl _)⟩
 case round=>
  obtain⟨h,j,rfl,rfl,hj,hh,hG⟩:=hrel;obtain⟨os,d,rfl⟩:=hG.out;clear hG;by_cases hlt:j<xs.length/\j<4000
  ·obtain⟨a1,a2⟩:=hlt
   obtain⟨g,aa,x,ec,rfl,a6,a4,rfl,a0⟩:=nP hx (k:=j) a1;have a3:=a0 0 _ rfl;simp only[show mX.size=1 from rfl,Tq,RK] at a3;have a8:=x.toNat_lt;clear a0 a4 hx;go_wp2_with(fail);go_roundw;exact⟨_,j+1,rfl,by go_num,by omega,Pt _ _,fh gG⟩;exact gH
  ·by_cases a1:j<xs.length
   ·have a2:¬ j<4000:=fun h=>hlt ⟨a1,h⟩
    go_wp2_with(fail);exact vi
   ·go_wp2_with(fail)
    exact vi
theorem zvi (hC:iM w W k)(n:Nat)(hn:0<n)(hn2:n<=1099511627776):Rh prog 36 #[.pointer (Z ⟨k,0,D⟩),J C (n:Int)] W fun e W'=>∃ x:Nat,e=.returned (J C (x:Int))/\x<n/\iM w W' k/\fw [k] W W':=by
 by_cases h:n<=256
 ·go_enter func36,ntmps36
  go_wp2_with(go_at_call 77;(with_reducible refine(zkC hC).mono ?_);rintro e W1 ⟨x,rfl,hx,a0,a1⟩);go_ret;refine⟨x % n,?_,UA _ hn,a0,a1⟩;exact nN (show (x:Int) % (n:Int)=((x % n:Nat):Int) from(Int.natCast_emod x n).symm)
 ·go_enter func36,ntmps36
  go_wp2_with(fail);refine(zkC hC).mono ?_;rintro e W1 ⟨x1,rfl,a8,a0,a1⟩;go_wp2_with(fail);refine(zkC a0).mono ?_;rintro e W2 ⟨x2,rfl,a9,a2,a5⟩;go_wp2_with(fail);refine(zkC a2).mono ?_;rintro e W3 ⟨x3,rfl,aa,a3,a6⟩;go_wp2_with(fail);refine(zkC a3).mono ?_;rintro e W4 ⟨x4,rfl,ab,a4,a7⟩;go_wp2_with(fail);go_ret;refine⟨(x1*16777216+x2*65536+x3*256+x4) % n,?_,UA _ hn,a4,((a1.trans a5).trans a6).trans a7⟩;exact nN (show ((x1:Int)*16777216+x2*65536+x3*256+x4) % (n:Int)=(((x1*16777216+x2*65536+x3*256+x4) % n:Nat):Int) from by rw[Int.natCast_emod];rfl)
theorem nO (hC:iM w W k)(n:Int)(hn:0<n)(hn2:n<=1099511627776):Rh prog 36 #[.pointer (Z ⟨k,0,D⟩),J C n] W fun e W'=>∃ x:Nat,e=.returned (J C (x:Int))/\(x:Int)<n/\iM w W' k/\fw [k] W W':=by
 obtain⟨n,rfl⟩:=Rl (show 0<=n by omega);refine(zvi hC n (by omega) (by omega)).mono ?_;rintro e W' ⟨x,h1,h2,h3⟩;exact⟨x,h1,by omega,h3⟩
theorem zqS (hC:iM w W k){A:X Ri}{n c:Nat}{xs:Q Int}(hx:(zr.sl 3).R W W.heap.size [G A n c] xs)(hk:∀ ad,A=Z ad->ad.block≠k)(h0:0<n)(h1:n<=1000000):Rh prog 71 #[.pointer (Z ⟨k,0,D⟩),G A n c] W fun e W'=>∃ x:Int,e=.returned (J C x)/\x∈xs/\iM w W' k/\fw [k] W W':=by
 obtain⟨_,_,hv,a7,a6⟩:=lu hx;injection hv with hA hn hc
 subst hA hn hc;go_enter func71,ntmps71;go_wp2_with(fail);refine(nO hC xs.length (by omega) (by omega)).mono ?_;rintro e W1 ⟨i,rfl,hi,a2,a1⟩;obtain⟨g,a8,x,ec,rfl,a4,a5,hR,a0⟩:=nP hx (k:=i) (by omega);obtain⟨rfl,_⟩:=hR;have a3:=(a1.cell a4 (by simpa using hk _ rfl) _).trans (a0 0 _ rfl);simp only[show zr.size=1 from rfl,Tq,RK] at a3;go_wp2_with(fail);go_ret;exact⟨x,rfl,Q9 a5,a2,a1⟩
theorem zwg (A:X Ri)(n c:Nat)(w:U):Rh prog 7 #[G A n c] w fun e w'=>e=.returned (H (decide (1048576<(n:Int))))/\ft w w':=by
 go_enter func7,ntmps7;go_wp2_with(fail);go_ret;exact⟨rfl,gG⟩
theorem MS (a b:Q UInt8):(⟨a.toArray⟩:N)++⟨b.toArray⟩=⟨(a++b).toArray⟩:=by
 apply Eg.1;rw[Ub,Ub];simp
theorem mH {a:N} (h:a=b):SN (V a)=.returned (V b):=by rw[h]
theorem Hx {a:N} (h:a=b):V a=V b:=by rw[h]
/-! ### marks -/
theorem Qg {α:Type} (f:α->Nat)(xs:Q α)(j:Nat):((xs.take j).map f).sum<=(xs.map f).sum:=Kd (cnt:=f) xs j
theorem PU {α:Type} (f:α->Nat){xs:Q α}{j:Nat}{x:α}(h:xs[j]?=Z x):((xs.take (j+1)).map f).sum=((xs.take j).map f).sum+f x:=MV (cnt:=f) h
def lH {α:Type}(f:α->Nat)(xs:Q α):Nat:=xs.length+(xs.map f).sum
theorem ye {α:Type} (f:α->Nat)(xs:Q α):xs.length<=lH f xs:=Tu _ _
theorem vM {α:Type} (f:α->Nat){xs:Q α}{j:Nat}{x:α}(h:xs[j]?=Z x):f x<=lH f xs:=by
 have h1:=PU f h;have h2:=Qg f xs (j+1);unfold lH;omega
/-! ### sizes -/
theorem BC:(prog.info? 3).map (fun i=>(i.zero,i.size,i.bytes))=Z (Z (J C 0),1,8):=by kernel_rfl
def tr (c:UInt8):Bool:=decide (97<=(c.toNat:Int)) && decide ((c.toNat:Int)<=122)
def kU (s:N):Bool:=s.data.toList.all tr && fT s.size 1 8
theorem xR (s:N)(k:Nat)(h:k<s.size):s.data.toList[k]?=Z s[k]:=by
 rw[QW (by simpa using h)];rfl
theorem KC {α:Type} {xs:Q α} {f:α->Bool} {x:α} (h:xs[j]?=Z x)(ha:(xs.take j).all f=M)(hf:f x=M):(xs.take (j+1)).all f=M:=by
 rw[vO h,TQ,ha];simp[hf]
theorem Fh {α:Type} {xs:Q α} {f:α->Bool} {x:α} (h:xs[j]?=Z x)(hf:f x=I):xs.all f=I:=by
 rw[List.all_eq_false];exact⟨x,Q9 h,by simp[hf]⟩
theorem tU {g:Prop} (f:g:=by
  by_cases h1:97<=(s[k].toNat:Int)
  ·by_cases h2:(s[k].toNat:Int)<=122
   ·go_wp2
    go_round
    exact⟨k+1,by omega,by go_num,fh (KC HX.out ha.out (by simp only[tr,Q4,Rg];exact⟨h1,h2⟩))⟩
    exact gH
   ·have HF:=fh (Fh (f:=tr) HX.out (by simp only[tr,TT,RW];exact .inr h2))
    go_wp2
    go_ret
    exact⟨zo (by unfold kU;rw[HF.out];rfl),rfl⟩
  ·have HF:=fh (Fh (f:=tr) HX.out (by simp only[tr,TT,RW];exact .inl h1))
   go_wp2
   go_ret
   exact⟨zo (by unfold kU;rw[HF.out];rfl),rfl⟩):g:=f
theorem G9 (s:N)(w:U)(hs:s.size<=9223372036854775807):Rh prog 143 #[V s] w fun e w'=>e=.returned (H (kU s))/\w=w':=by
 go_enter func143,ntmps143;go_wp2_with(fail);go_loop [3] (fun i=>∃ k:Nat,k<=s.size/\i=J C k/\Hid ((s.data.toList.take k).all tr=M)) (fun i=>s.size-(Ry i).toNat)
 case atStart=>exact⟨0,QX _,rfl,fh (by simp)⟩
 case round=>
  obtain⟨k,hk,rfl,ha⟩:=hrel;by_cases hlt:k<s.size
  ·have HX:=fh (xR s k hlt)
   exact tU
  ·have a0:k=s.size:=by omega
   subst a0;have HA:=fh (show kU s=fT s.size 1 8 from by unfold kU;rw[<-RX (l:=s.data.toList)];have:=ha.out;rw[show s.size=s.data.toList.length from by rw[RM];rfl] at this;rw[this];rfl);clear ha;go_wp2_with(first | (go_at_call 38;(with_reducible refine(lP _ _ _ _).mono ?_);rintro e w1 ⟨rfl,rfl⟩));go_ret;exact⟨zo HA.out.symm,rfl⟩
theorem qT (s:N)(w:U)(hs:s.size<=9223372036854775807):Rh prog 133 #[V s] w fun e w'=>e=.returned (H (kU s))/\w=w':=by
 go_enter func133,ntmps133;go_wp2_with(fail);go_loop [3] (fun i=>∃ k:Nat,k<=s.size/\i=J C k/\Hid ((s.data.toList.take k).all tr=M)) (fun i=>s.size-(Ry i).toNat)
 case atStart=>exact⟨0,QX _,rfl,fh (by simp)⟩
 case round=>
  obtain⟨k,hk,rfl,ha⟩:=hrel;by_cases hlt:k<s.size
  ·have HX:=fh (xR s k hlt)
   exact tU
  ·have a0:k=s.size:=by omega
   subst a0;have HA:=fh (show kU s=fT s.size 1 8 from by unfold kU;rw[<-RX (l:=s.data.toList)];have:=ha.out;rw[show s.size=s.data.toList.length from by rw[RM];rfl] at this;rw[this];rfl);clear ha;go_wp2_with(first | (go_at_call 43;(with_reducible refine(gY _ _ _ _).mono ?_);rintro e w1 ⟨rfl,rfl⟩));go_ret;exact⟨zo HA.out.symm,rfl⟩
theorem FU {α:Type} {T:Ty α} (hf:kA T){W0 W W1:U}{B:Nat}{ec:Q Value}{x:α}(hR:T.R W1 B ec x)(hg:ft W0 W){g:Nat}(hgW:g=W.heap.size):fU (T.sl e) W0 (W.alloc (F ec.toArray e)) [G (Z ⟨g,0,D⟩) 1 1] [x]:=by
 subst hgW;refine⟨[W.heap.size],pS (xs:=[x]) (QO W _) (show Rows T _ ec.toArray.toList [x] [] from⟨ec,[],[],[],by simp,rfl,hf hR _,rfl,rfl⟩) (by simp),by simp,fun b hb=>?_⟩;simp at hb;subst hb;exact hg.size
def Has {α:Type}(T:Ty α)(W:U)(cs:Q Value)(x:α)(S:Q Nat):Prop:=T.O W cs x S/\S.Nodup
theorem Has.lt {α:Type} {T:Ty α} {x:α} (h:Has T W cs x S):∀ b∈S,b<W.heap.size:=T.ja h.1
theorem Has.read {α:Type}{T:Ty α}{W:U}{cs:Q Value}{x:α}{S:Q Nat}(h:Has T W cs x S):T.R W W.heap.size cs x:=T.read h.1
theorem Has.fJ {α:Type} {T:Ty α} {x:α} {L:Q Nat} (h:Has T W cs x S)(ho:fw L W W')(hd:∀ b∈S,b∉L):Has T W' cs x S:=
 ⟨T.gD h.1 (fun k hk=>ho.block k (h.lt k hk) (hd k hk)),h.2⟩
theorem Has.fx {α:Type} {T:Ty α} {x:α} (h:Has T W cs x S)(hg:ft W W'):Has T W' cs x S:=⟨T.jg h.1 hg,h.2⟩
theorem Has.fresh {α:Type} {T:Ty α} {x:α} (h:Has T W cs x S)(hl:∀ b∈S,w.heap.size<=b):fU T w W cs x:=⟨S,h.1,h.2,hl⟩
theorem fU.has {α:Type} {T:Ty α} {x:α} (h:fU T w W cs x):∃ S,Has T W cs x S/\∀ b∈S,w.heap.size<=b:=by
 obtain⟨S,h1,h2,h3⟩:=h;exact⟨S,⟨h1,h2⟩,h3⟩
theorem Has.same {α:Type} {T:Ty α} {x:α} (h:Has T W cs x S)(hl:∀ b∈S,n<=b)(hs:hU n W.heap.size W W'):Has T W' cs x S:=
 ⟨T.gD h.1 (fun k hk=>hs k (hl k hk) (h.lt k hk)),h.2⟩
theorem Has.prod {α β:Type}{T:Ty α}{QF:Ty β}{W:U}{c1 c2:Q Value}{x:α × β}{S:Q Nat}(hl:c1.length=T.size)(h:Has (T.prod QF) W (c1++c2) x S):∃ S1 S2,Has T W c1 x.1 S1/\Has QF W c2 x.2 S2/\(∀ b∈S1,b∈S)/\(∀ b∈S2,b∈S)/\∀ b∈S1,b∉S2:=by
 obtain⟨⟨d1,d2,S1,S2,he,rfl,h1,h2⟩,hN⟩:=h;have a0:=T.ju h1;have h3:c1=d1/\c2=d2:=List.append_inj he (by omega);obtain⟨rfl,rfl⟩:=h3;obtain⟨n1,n2,n3,_⟩:=I1 hN;exact⟨S1,S2,⟨h1,n1⟩,⟨h2,n2⟩,fun b hb=>Rm _ hb,fun b hb=>Rr _ hb,n3⟩
theorem Has.nil {α:Type} (T:Ty α)(e:TypeId)(W:U):Has (T.sl e) W [G D 0 0] [] []:=by
 obtain⟨S,h1,h2,h3⟩:=zh (T:=T) (e:=e) W W;refine⟨?_,by simp⟩;obtain⟨A',c',a0,S',h4,h5,h6,h7⟩:=h1;injection h4 with h4 _
 injection h4 with hA hn hc
 subst hA hc;obtain⟨h8,h9⟩:=h6;exact⟨D,0,a0,[],rfl,h5,⟨h8,rfl⟩,rfl⟩
theorem Has.emp {α:Type} (T:Ty α){e:TypeId}{W:U}{g:Nat}(hg:W.heap[g]?=Z (F #[] e (0,0))):Has (T.sl e) W [G (Z ⟨g,0,D⟩) 0 0] [] [g]:=
 ⟨pS (T:=T) (xs:=[]) hg ⟨rfl,rfl⟩ (by simp),by simp⟩
section
variable {α:Type} {T:Ty α} {e:TypeId} {P:Program} {t ty:TypeId} {Sx:Nat}
theorem xz (hE:gZ P t e T Sx){W:U}{S:Q Nat}{A:X Ri}{n c:Nat}{xs:Q α}(h:Has (T.sl e) W [G A n c] xs S)
  {ad:Ri} {m c':Nat} {ys:Q α} {news:Q Value} {Sy:Q Nat} (hr:Rows T W news ys Sy) (hm:m=ys.length) (hcell:∀ j u,news[j]?=Z u->W.cell? (ad.add j)=Z u)
  (hSy:Sy.Nodup) (hd:∀ b∈S,b∉Sy) {L:Nat} (hL:L=n+m) (hb:L*Sx<=140737488355328) (h63:L<=9223372036854775807) :
  ∃ A' c'' W' S',(Sz #[t,t] ty #[G A n c,G (Z ad) m c']).run P W=.ok (G A' L c'') W'/\fw S W W'/\Has (T.sl e) W' [G A' L c''] (xs++ys) S'/\∀ b∈S',b∈S∨b∈Sy∨W.heap.size<=b:=by
 subst hL;obtain⟨hO,hN⟩:=h;obtain⟨A1,c1,a5,S',hv,aa,hrow,rfl⟩:=hO;injection hv with hv _
 injection hv with hA hn hc
 subst hA hc;have a7:n=xs.length:=hn;obtain⟨i,z,hi,hz,a4,a9,ac⟩:=hE.info;have a6:news.length=m*T.size:=by rw[hr.len,hm]
 obtain⟨v',W',a8,hown,a0,_,hat⟩:=run_append_own_at (P:=P) W 0 t ty e i z T.size Sx hE.ht hi hz a4 a9 ac hE.pos (G A xs.length c) xs.length a5 aa ad m c' news a6 hcell hr.one
  (by rw[<-a7];simpa[maxLen] using h63) (by rw[<-a7];exact hb) (QX _)
 subst a7
 have a1:∀ k,k<W.heap.size->(∀ b∈kj A,k≠b)->W'.heap[k]?=W.heap[k]?:=fun k hk hne=>a0.block k hk (by
  cases A with
  | none=>simp[SW]
  | some a=>simpa[SW,kj] using hne)
 rw[Rs] at hN;obtain⟨ae,hN2,hN3⟩:=hN;have a3:Rows T W' a5 xs S':=hrow.fJ (fun k hk=>a1 k (hrow.lt k hk) (fun b hb=>(hN3 b hb k hk).symm));have ab:Rows T W' news ys Sy:=hr.fJ (fun k hk=>a1 k (hr.lt k hk) (fun b hb heq=>hd b (Rm _ hb) (heq ▸ hk)))
 have a2:∃ A' c'',v'=G A' (xs.length+m) c''/\∀ b∈kj A',b∈kj A∨b=W.heap.size:=by
  exact ui
 obtain⟨A',c'',rfl,hA'⟩:=a2
 refine⟨A',c'',W',kj A'++(S'++Sy),a8,⟨a0.os,a0.tape,a0.output,a0.size,fun k hk hn=>a1 k hk (fun b hb heq=>hn (Rm _ (heq ▸ hb)))⟩,
  ⟨⟨A',c'',a5++news,S'++Sy,by rw[QR,hm],by rw[QR,<-hm];exact hown,a3.app ab,rfl⟩,?_⟩,?_⟩
 ·rw[Rs]
  exact tW
 ·intro b hb
  rcases Q7.1 hb with hb | hb
  ·rcases hA' b hb with h | h
   ·exact .inl (Rm _ h)
   ·exact .inr (.inr (by omega))
  ·rcases Q7.1 hb with hb | hb
   ·exact .inl (Rr _ hb)
   ·exact .inr (.inl hb)
theorem Dw (hE:gZ P t e T Sx){W:U}{S:Q Nat}{A:X Ri}{n c:Nat}{xs:Q α}(h:Has (T.sl e) W [G A n c] xs S)(c':Nat) :
  (Sz #[t,t] ty #[G A n c,G D 0 c']).run P W=.ok (G A n c) W:=
 Dy (W0:={ W with heap:=#[] }) hE ⟨S,h.1,h.2,fun b _=>QX _⟩ c'
end
section
variable {α:Type} {T:Ty α} {e:TypeId} {P:Program} {t:TypeId} {Sx:Nat} {ops:Array Oper} {rest:Q Oper} {o:Oper} {a:Act} {QI:Exit->Act->U->Prop} {K:Act->U->Prop}
theorem wo {E:Prop} (hgd:o.guard=D)(s x:Operand)(hE:gZ P t e T Sx){W:U}{g cc:Nat}{S Sy:Q Nat}{A:X Ri}{n c:Nat}{xs:Q α}(h:Has (T.sl e) W [G A n c] xs S)
  {ec:Q Value} {y:α} (hy:Has T W ec y Sy) (hd:∀ b∈S,b∉Sy)
  (ho:o.op=.call { callee:=.builtin .append,args:=#[s,x],argTypes:=#[t,t] }) (hs:a.eval s=G A n c) (hx:a.eval x=G (Z ⟨g,0,D⟩) 1 cc)
  (hcell:∀(j:Nat) (u:Value),ec[j]?=Z u->QL W ⟨g,j,D⟩=Z u)
  {L:Nat} (hL:L=n+1) (hb:L*Sx<=140737488355328) (h63:L<=9223372036854775807)
  (hK:∀ A' c'' W' S',fw S W W'->Has (T.sl e) W' [G A' L c''] (xs++[y]) S'->(∀ b∈S',b∈S∨b∈Sy∨W.heap.size<=b)->K (a.put o.dst (G A' L c'')) W'):if Rx o (Su ops a.tmps)=M then Oper.wp P o a W K QI else E:=by
 have hw:Rx o (Su ops a.tmps)=M:=by simp[Rx,hgd]
 rw[Q5 hw];obtain⟨A',c'',W',S',a0,a2,hF,a1⟩:=xz (P:=P) (ty:=o.type) hE h (ad:=⟨g,0,D⟩) (m:=1) (c':=cc) (ys:=[y]) (news:=ec) (Sy:=Sy) ⟨ec,[],Sy,[],by simp,by simp,hy.1,rfl,rfl⟩ rfl (fun j u hu=>by rw[TM,Rk];exact hcell j u hu) hy.2 hd hL hb h63;exact wA s x ho hs hx a0 (hK A' c'' W' S' a2 hF a1)
theorem zC (hgd:o.guard=D)(s x:Operand)(hE:gZ P t e T Sx){W:U}{g cc:Nat}{S Sy:Q Nat}{A:X Ri}{n c:Nat}{xs:Q α}(h:Has (T.sl e) W [G A n c] xs S)
  {ec:Q Value} {y:α} (hy:Has T W ec y Sy) (hd:∀ b∈S,b∉Sy)
  (ho:o.op=.call { callee:=.builtin .append,args:=#[s,x],argTypes:=#[t,t] }) (hs:a.eval s=G A n c) (hx:a.eval x=G (Z ⟨g,0,D⟩) 1 cc)
  (hcell:∀(j:Nat) (u:Value),ec[j]?=Z u->QL W ⟨g,j,D⟩=Z u)
  {L:Nat} (hL:L=n+1) (hb:L*Sx<=140737488355328) (h63:L<=9223372036854775807)
  (hK:∀ A' c'' W' S',fw S W W'->Has (T.sl e) W' [G A' L c''] (xs++[y]) S'->(∀ b∈S',b∈S∨b∈Sy∨W.heap.size<=b)->wpList P ops QI rest (a.put o.dst (G A' L c'')) W'):wpList P ops QI (o::rest) a W:=
 Uw hgd fun K hKK=>by
  obtain⟨A',c'',W',S',a0,a2,hF,a1⟩:=xz (P:=P) (ty:=o.type) hE h (ad:=⟨g,0,D⟩) (m:=1) (c':=cc) (ys:=[y]) (news:=ec) (Sy:=Sy) ⟨ec,[],Sy,[],by simp,by simp,hy.1,rfl,rfl⟩ rfl (fun j u hu=>by rw[TM,Rk];exact hcell j u hu) hy.2 hd hL hb h63;exact wA s x ho hs hx a0 (hKK _ _ (hK A' c'' W' S' a2 hF a1))
theorem zW {E:Prop} (hgd:o.guard=D)(s x:Operand)(hE:gZ P t e T Sx)(hf:kA T){W W1:U}{B g cc:Nat}{S:Q Nat}{A:X Ri}{n c:Nat}{xs:Q α}(h:Has (T.sl e) W [G A n c] xs S)
  {ec:Q Value} {y:α} (hy:T.R W1 B ec y)
  (ho:o.op=.call { callee:=.builtin .append,args:=#[s,x],argTypes:=#[t,t] }) (hs:a.eval s=G A n c) (hx:a.eval x=G (Z ⟨g,0,D⟩) 1 cc)
  (hcell:∀(j:Nat) (u:Value),ec[j]?=Z u->QL W ⟨g,j,D⟩=Z u)
  {L:Nat} (hL:L=n+1) (hb:L*Sx<=140737488355328) (h63:L<=9223372036854775807)
  (hK:∀ A' c'' W' S',fw S W W'->Has (T.sl e) W' [G A' L c''] (xs++[y]) S'->(∀ b∈S',b∈S∨W.heap.size<=b)->K (a.put o.dst (G A' L c'')) W'):if Rx o (Su ops a.tmps)=M then Oper.wp P o a W K QI else E:=
 wo hgd s x hE h (Sy:=[]) ⟨hf hy W,by simp⟩ (by simp) ho hs hx hcell hL hb h63 (fun A' c'' W' S' h1 h2 h3=>hK A' c'' W' S' h1 h2 (fun b hb=>by have:=h3 b hb;simpa using this))
theorem zA (hgd:o.guard=D)(s x:Operand)(hE:gZ P t e T Sx)(hf:kA T){W W1:U}{B g cc:Nat}{S:Q Nat}{A:X Ri}{n c:Nat}{xs:Q α}(h:Has (T.sl e) W [G A n c] xs S)
  {ec:Q Value} {y:α} (hy:T.R W1 B ec y)
  (ho:o.op=.call { callee:=.builtin .append,args:=#[s,x],argTypes:=#[t,t] }) (hs:a.eval s=G A n c) (hx:a.eval x=G (Z ⟨g,0,D⟩) 1 cc)
  (hcell:∀(j:Nat) (u:Value),ec[j]?=Z u->QL W ⟨g,j,D⟩=Z u)
  {L:Nat} (hL:L=n+1) (hb:L*Sx<=140737488355328) (h63:L<=9223372036854775807)
  (hK:∀ A' c'' W' S',fw S W W'->Has (T.sl e) W' [G A' L c''] (xs++[y]) S'->(∀ b∈S',b∈S∨W.heap.size<=b)->wpList P ops QI rest (a.put o.dst (G A' L c'')) W'):wpList P ops QI (o::rest) a W:=
 zC hgd s x hE h (Sy:=[]) ⟨hf hy W,by simp⟩ (by simp) ho hs hx hcell hL hb h63 (fun A' c'' W' S' h1 h2 h3=>hK A' c'' W' S' h1 h2 (fun b hb=>by have:=h3 b hb;simpa using this))
theorem DA (hE:gZ P t e T Sx)(hf:kA T){ty:TypeId}{W:U}{S:Q Nat}{A:X Ri}{n c:Nat}{xs:Q α}(h:Has (T.sl e) W [G A n c] xs S)
  {B:Nat} {e':TypeId} {A2:X Ri} {m c2:Nat} {ys:Q α} (hy:(T.sl e').R W B [G A2 m c2] ys)
  {L:Nat} (hL:L=n+m) (hb:L*Sx<=140737488355328) (h63:L<=9223372036854775807) :
  ∃ A' c'' W' S',(Sz #[t,t] ty #[G A n c,G A2 m c2]).run P W=.ok (G A' L c'') W'/\fw S W W'/\Has (T.sl e) W' [G A' L c''] (xs++ys) S'/\∀ b∈S',b∈S∨W.heap.size<=b:=by
 obtain⟨A3,c3,hv,h1,h2,h3,h4⟩:=hy;injection hv with hv _
 injection hv with hA hn hc
 subst hA hn hc;rcases Ue ys.length with h0 | h0
 ·have a1:ys = []:=TJ h0
  subst a1;subst hL;cases A2 with
  | none=>exact⟨A,c,W,S,Dw hE h _,fw.refl _ _,by simpa using h,fun b hb=>.inl hb⟩
  | some ad=>
   obtain⟨A',c'',W',S',k1,k2,k3,k4⟩:=xz (P:=P) (ty:=ty) hE h (ad:=ad) (m:=0) (c':=c2) (news:=[]) (ys:=[]) (Sy:=[]) ⟨rfl,rfl⟩ rfl (fun j u hu=>by simp at hu) (by simp) (by simp) rfl hb h63;exact⟨A',c'',W',S',k1,k2,k3,fun b hb=>by have:=k4 b hb;simpa using this⟩
 ·obtain⟨g,off,rfl,a2,h5⟩:=h4 h0
  obtain⟨cs,hr,hl,hc⟩:=BU (w':=W) hf (g:=g) (off:=off) ys 0 (fun i x hx=>by
   obtain⟨ec,hR,a0⟩:=h5 i x hx
   exact⟨ec,hR,fun j u hu=>by rw[Rk];exact a0 j u hu⟩)
  obtain⟨A',c'',W',S',k1,k2,k3,k4⟩:=xz (P:=P) (ty:=ty) hE h (ad:=⟨g,off,D⟩) hr rfl (fun j u hu=>by rw[TM];simpa using hc j u hu) (by simp) (by simp) hL hb h63;exact⟨A',c'',W',S',k1,k2,k3,fun b hb=>by have:=k4 b hb;simpa using this⟩
theorem zK {E:Prop} (hgd:o.guard=D)(s x:Operand)(hE:gZ P t e T Sx)(hf:kA T){W:U}{S:Q Nat}{A:X Ri}{n c:Nat}{xs:Q α}(h:Has (T.sl e) W [G A n c] xs S)
  {B:Nat} {e':TypeId} {A2:X Ri} {m c2:Nat} {ys:Q α} (hy:(T.sl e').R W B [G A2 m c2] ys)
  (ho:o.op=.call { callee:=.builtin .append,args:=#[s,x],argTypes:=#[t,t] }) (hs:a.eval s=G A n c) (hx:a.eval x=G A2 m c2)
  {L:Nat} (hL:L=n+m) (hb:L*Sx<=140737488355328) (h63:L<=9223372036854775807)
  (hK:∀ A' c'' W' S',fw S W W'->Has (T.sl e) W' [G A' L c''] (xs++ys) S'->(∀ b∈S',b∈S∨W.heap.size<=b)->K (a.put o.dst (G A' L c'')) W'):if Rx o (Su ops a.tmps)=M then Oper.wp P o a W K QI else E:=by
 have hw:Rx o (Su ops a.tmps)=M:=by simp[Rx,hgd]
 rw[Q5 hw];obtain⟨A',c'',W',S',a0,a2,hF,a1⟩:=DA (P:=P) (ty:=o.type) hE hf h hy hL hb h63;exact wA s x ho hs hx a0 (hK A' c'' W' S' a2 hF a1)
theorem wv (hgd:o.guard=D)(s x:Operand)(hE:gZ P t e T Sx)(hf:kA T){W:U}{S:Q Nat}{A:X Ri}{n c:Nat}{xs:Q α}(h:Has (T.sl e) W [G A n c] xs S)
  {B:Nat} {e':TypeId} {A2:X Ri} {m c2:Nat} {ys:Q α} (hy:(T.sl e').R W B [G A2 m c2] ys)
  (ho:o.op=.call { callee:=.builtin .append,args:=#[s,x],argTypes:=#[t,t] }) (hs:a.eval s=G A n c) (hx:a.eval x=G A2 m c2)
  {L:Nat} (hL:L=n+m) (hb:L*Sx<=140737488355328) (h63:L<=9223372036854775807)
  (hK:∀ A' c'' W' S',fw S W W'->Has (T.sl e) W' [G A' L c''] (xs++ys) S'->(∀ b∈S',b∈S∨W.heap.size<=b)->wpList P ops QI rest (a.put o.dst (G A' L c'')) W'):wpList P ops QI (o::rest) a W:=
 Uw hgd fun K hKK=>by
  obtain⟨A',c'',W',S',a0,a2,hF,a1⟩:=DA (P:=P) (ty:=o.type) hE hf h hy hL hb h63;exact wA s x ho hs hx a0 (hKK _ _ (hK A' c'' W' S' a2 hF a1))
end
structure lY where
 Code:Int
 Arg:Int
 deriving DecidableEq
def rR:Ty lY:=(zr.prod zr).via fun x=>(x.Code,x.Arg)
theorem Ht {x:lY} (h0:fD x.Code)(h1:fD x.Arg):rR.R w B [J C x.Code,J C x.Arg] x:=by
 exact⟨[J C x.Code],[J C x.Arg],rfl,⟨rfl,h0.1,h0.2⟩,⟨rfl,h1.1,h1.2⟩⟩
theorem Mm:(prog.info? 142).map (fun i=>(i.zero,i.size,i.bytes))=Z (Z (.agg #[J C 0,J C 0]),2,16):=by kernel_rfl
theorem Ir:kA rR:=wQ _ (oG zD zD)
theorem II:gZ prog 195 142 rR 16:=by
 obtain⟨i0,hi,a0,a1,a2⟩:=SJ Mm;exact⟨underlying195,⟨i0,_,hi,a0,a1,a2,rfl⟩,by decide⟩
end Go.Proofs.YthgbglbaemelhaaGreat
