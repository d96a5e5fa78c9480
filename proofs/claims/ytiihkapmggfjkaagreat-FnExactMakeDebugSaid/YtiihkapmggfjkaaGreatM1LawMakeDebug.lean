/-
  PART.
-/
import Derived.Test.YtiihkapmggfjkaaGreatM0LawMakeDebug
import Derived.RegionTactic
set_option linter.unusedVariables false
set_option linter.unusedSimpArgs false
set_option maxRecDepth 100000
set_option maxHeartbeats 8000000
namespace Go.Proofs.YtiihkapmggfjkaaGreat
open Value renaming slice->J,int->F,ownBlock->Nq
open IntKind renaming i64->I
open Option renaming none->V,some->H
open Obj renaming cells->C
open Go renaming World->N,Value->LA,Addr->Mh,bytes->Nl
open World renaming cell?->Lg
open List renaming length_cons->LJ
open Builtin renaming append_->Nj
open Go.RowKit
variable {W:N}{n:Nat}
structure iI (P:Program)(t e:TypeId){α:Type}(T:Ty α)(Nl:Nat):Prop where
 ht:P.underlying t=H (.slice e)
 info:∃ i z,P.info? e=H i/\i.zero=H z/\i.size=T.size/\i.bytes=Nl/\z.cells.size=T.size
 pos:0<T.size
theorem ud {P:Program} {t e e':TypeId} {α:Type} {T:Ty α} {Nl:Nat} (hE:iI P t e T Nl){w:N}{B:Nat}{A:K Mh}{n c k:Nat}{xs:Q α}(h:(T.sl e').R w B [J A n c] xs)(hk:k<=n) :
  (∀ W,(Instr.sliceAt t (J A n c) V (H (F I (k:Int))) V).run P W=.ok (J A k c) W)/\(T.sl e').R w B [J A k c] (xs.take k):=by
 refine⟨fun W=>?_,Kt h hk⟩;obtain⟨i,z,hi,hz,a0,a1,a3⟩:=hE.info
 have a2:n<=c/\(A=V->c=0):=by
  obtain⟨A',c',h1,h2,_,h4,_⟩:=h;injection h1 with h1 _
  injection h1 with hA hn hc
  subst hA hn hc;exact⟨h2,h4⟩
 have hA:A.map (fun a=>a.add 0)=A:=by cases A <;> simp[Addr.add]
 simp[Instr.sliceAt,Instr.slice,Instr.sliceBounds,Instr.sliceBound,asIntOf,run_underlying hE.ht,sizeOf,typeInfo,hi,hA];intro h;omega
def kK {α:Type}(T:Ty α):Prop:=∀{w B cs x},T.R w B cs x->∀ w',T.O w' cs x []
theorem zP:kK zF:=fun h _=>⟨h.1,h.2.1,h.2.2,rfl⟩
theorem CT:kK rr:=fun h _=>⟨h,rfl⟩
theorem qp:kK iH:=fun h _=>⟨h.1,h.2,rfl⟩
theorem nO {α β:Type} {T:Ty α} {K8:Ty β} (h:kK T)(k:kK K8):kK (T.prod K8):=fun⟨c1,c2,h1,h2,h3⟩ w'=>⟨c1,c2,[],[],h1,rfl,h h2 w',k h3 w'⟩
theorem uP {α β:Type} {T:Ty α} (f:β->α)(h:kK T):kK (T.via f):=fun h1 w'=>h h1 w'
section
variable {α:Type} {T:Ty α} {e:TypeId}
theorem Ic (W0 W:N):gM (T.sl e) W0 W [J V 0 0] []:=
 ⟨[],⟨V,0,[],[],rfl,World.ownsRow_nil W 0 e T.size,⟨rfl,rfl⟩,rfl⟩,by simp,by simp⟩
theorem Cm {W0:N} (hg:fF W0 W){g:Nat}(hgW:g=W.heap.size):gM (T.sl e) W0 (W.alloc (C #[] e)) [J (H ⟨g,0,V⟩) 0 0] []:=by
 subst hgW;refine⟨[W.heap.size],⟨_,0,[],[],rfl,?_,⟨rfl,rfl⟩,by simp[jQ]⟩,by simp,fun b hb=>?_⟩
 ·exact World.ownsRow_made W #[] 0 (Lv _) (Lv _) (by simp)
 ·simp at hb
  subst hb;exact hg.size
theorem xG (hf:kK T){w w':N}{B g off:Nat}:∀(xs:Q α)(k:Nat),(∀ i x,xs[i]?=H x->∃ ec,T.R w B ec x/\∀(j:Nat)(u:LA),ec[j]?=H u->Lg w ⟨g,off+(k+i)*T.size+j,V⟩=H u)->
  ∃ cs,Rows T w' cs xs []/\cs.length=xs.length*T.size/\∀(j:Nat) (u:LA),cs[j]?=H u->Lg w ⟨g,off+k*T.size+j,V⟩=H u
 | [],k,_=>⟨[],⟨rfl,rfl⟩,by simp,fun j u hu=>by simp at hu⟩
 | x::xs,k,h=>by
  obtain⟨ec,hR,hc⟩:=h 0 x rfl
  obtain⟨cs,h1,h2,h3⟩:=xG hf xs (k+1) (fun i y hy=>by
   obtain⟨a0,a1,a2⟩:=h (i+1) y (by simpa using hy)
   exact⟨a0,a1,fun j u hu=>by have:=a2 j u hu;rw[show k+(i+1)=k+1+i from by omega] at this;exact this⟩)
  have hl:=T.kz hR;refine⟨ec++cs,⟨ec,cs,[],[],rfl,rfl,hf hR _,h1⟩,by rw[Lj,hl,h2,LJ,OA,N0,OM],fun j u hu=>?_⟩;rw[OB] at hu;split at hu
  ·exact hc j u hu
  ·rename_i hj
   have:=h3 _ u hu;rw[OA,N0] at this;rw[hl] at hj;rw[hl] at this;rw[show off+k*T.size+j=off+(k*T.size+T.size)+(j-T.size) from by omega];exact this
section
variable {P:Program} {t ty:TypeId} {Nl:Nat}
theorem rJ {g:Prop} (f:g:=by
  refine⟨by cases A' <;> simp[jQ],Ms.2 ⟨hN2,hSy,fun a ha b hb heq=>hd a (Mc _ ha) (heq ▸ hb)⟩,fun a ha b hb heq=>?_⟩
  subst heq
  rcases hA' a ha with h | h
  ·rcases LG.1 hb with hb | hb
   ·exact hN3 a h a hb rfl
   ·exact hd a (LW _ h) hb
  ·subst h
   rcases LG.1 hb with hb | hb
   ·exact absurd (hrow.lt _ hb) (NH _)
   ·exact absurd (hr.lt _ hb) (NH _)):g:=f
theorem rP {g:Prop} (f:g:=by
  rcases hown.2 with⟨rfl,h0⟩ | ⟨g,cap,cur,rfl,_⟩
  ·exact⟨V,0,by rw[h0],by simp[jQ]⟩
  ·refine⟨_,cap,rfl,fun b hb=>?_⟩
   simp[jQ] at hb
   subst hb
   rcases hat with h | h
   ·left
    cases A with
    | none=>simp[Nq] at h
    | some a=>simp[Nq] at h;simp[jQ,h]
   ·right
    simpa[Nq] using h):g:=f
theorem xn (hE:iI P t e T Nl){W0 W:N}{hi0:Nat}{A:K Mh}{n c:Nat}{xs:Q α}(h:kv (T.sl e) W0 hi0 W [J A n c] xs)
  {ad:Mh} {m c':Nat} {ys:Q α} {news:Q LA} {Sy:Q Nat} (hr:Rows T W news ys Sy) (hm:m=ys.length) (hcell:∀ j u,news[j]?=H u->W.cell? (ad.add j)=H u)
  (hSy:Sy.Nodup) {m0:Nat} (hm0:m0<=W.heap.size) (hSy0:∀ b∈Sy,W0.heap.size<=b/\hi0<=b/\m0<=b)
  {L:Nat} (hL:L=n+m) (hb:L*Nl<=140737488355328) (h63:L<=9223372036854775807) :
  ∃ A' c'' W',(Nj #[t,t] ty #[J A n c,J (H ad) m c']).run P W=.ok (J A' L c'') W'/\(∃ row,W.grownBy W' row/\∀ k,row=H k->W0.heap.size<=k/\k<hi0)/\nh (T.sl e) W0 hi0 m0 W' [J A' L c''] (xs++ys):=by
 subst hL;obtain⟨S,hO,hN,a0⟩:=h;have ag:∀ b∈S,W0.heap.size<=b:=fun b hb=>(a0 b hb).1;have hd:∀ b∈S,b∉Sy:=fun b hb hm=>by have h1:=(a0 b hb).2;have h2:=(hSy0 b hm).2.1;omega
 obtain⟨A1,c1,a6,S',hv,ab,hrow,rfl⟩:=hO;injection hv with hv _
 injection hv with hA hn hc
 subst hA hc;have a8:n=xs.length:=hn;obtain⟨i,z,hi,hz,a5,aa,ae⟩:=hE.info;have a7:news.length=m*T.size:=by rw[hr.len,hm]
 obtain⟨v',W',a9,hown,a1,_,hat⟩:=run_append_own_at (P:=P) W 0 t ty e i z T.size Nl hE.ht hi hz a5 aa ae hE.pos (J A xs.length c) xs.length a6 ab ad m c' news a7 hcell hr.one
  (by rw[<-a8];simpa[maxLen] using h63) (by rw[<-a8];exact hb) (Lv _)
 subst a8
 have hG:∃ row,W.grownBy W' row/\∀ k,row=H k->W0.heap.size<=k/\k<hi0:=⟨_,a1,fun k hk=>by
  cases A with
  | none=>simp[Nq] at hk
  | some a=>
   simp[Nq] at hk
   exact a0 k (by simp[jQ,hk])⟩
 -- the elements' own blocks have not turned
 have a2:∀ k,k<W.heap.size->(∀ b∈jQ A,k≠b)->W'.heap[k]?=W.heap[k]?:=fun k hk hne=>a1.block k hk (by
  cases A with
  | none=>simp[Nq]
  | some a=>simpa[Nq,jQ] using hne)
 rw[Ms] at hN;obtain⟨af,hN2,hN3⟩:=hN;have a4:Rows T W' a6 xs S':=hrow.fU (fun k hk=>a2 k (hrow.lt k hk) (fun b hb=>(hN3 b hb k hk).symm));have ac:Rows T W' news ys Sy:=hr.fU (fun k hk=>a2 k (hr.lt k hk) (fun b hb heq=>hd b (LW _ hb) (heq ▸ hk)))
 have a3:∃ A' c'',v'=J A' (xs.length+m) c''/\∀ b∈jQ A',b∈jQ A∨b=W.heap.size:=by
  exact rP
 obtain⟨A',c'',rfl,hA'⟩:=a3;refine⟨A',c'',W',a9,hG,jQ A'++(S'++Sy),⟨A',c'',a6++news,S'++Sy,by rw[Lj,hm],by rw[Lj,<-hm];exact hown,a4.app ac,rfl⟩,?_,?_⟩
 ·rw[Ms]
  exact rJ
 ·intro b hb
  rcases LG.1 hb with hb | hb
  ·rcases hA' b hb with h | h
   ·exact .inl (a0 b (LW _ h))
   ·rw[h];exact .inr hm0
  ·rcases LG.1 hb with hb | hb
   ·exact .inl (a0 b (Mc _ hb))
   ·exact .inr (hSy0 b hb).2.2
theorem AU (hE:iI P t e T Nl){W0 W:N}{A:K Mh}{n c:Nat}{xs:Q α}(h:gM (T.sl e) W0 W [J A n c] xs)(c':Nat) :
  (Nj #[t,t] ty #[J A n c,J V 0 c']).run P W=.ok (J A n c) W:=by
 obtain⟨S,hO,hN,a7⟩:=h;obtain⟨A1,c1,a6,S',hv,a2,a3,rfl⟩:=hO;injection hv with hv _
 injection hv with hA hn hc
 subst hA hc hn;obtain⟨i,z,hi,hz,a0,a8,a9⟩:=hE.info;rcases a2.2 with⟨hv,h0⟩ | ⟨g,a4,a5,hv,_,_,a1,_⟩
 ·rw[hv]
  simp[Nj,run_underlying hE.ht,sizeOf,typeInfo,hi,Builtin.lenOf,Builtin.firstCells]
 ·rw[hv]
  simp[Nj,run_underlying hE.ht,sizeOf,typeInfo,hi,Builtin.lenOf,Builtin.firstCells,a1,storeCells]
theorem EV (hE:iI P t e T Nl)(hf:kK T){W0 W:N}{hi0 m0:Nat}(hm0:m0<=W.heap.size){A:K Mh}{n c:Nat}{xs:Q α}(h:kv (T.sl e) W0 hi0 W [J A n c] xs)
  {B:Nat} {e':TypeId} {A2:K Mh} {m c2:Nat} {ys:Q α} (hy:(T.sl e').R W B [J A2 m c2] ys)
  {L:Nat} (hL:L=n+m) (hb:L*Nl<=140737488355328) (h63:L<=9223372036854775807) :
  ∃ A' c'' W',(Nj #[t,t] ty #[J A n c,J A2 m c2]).run P W=.ok (J A' L c'') W'/\(∃ row,W.grownBy W' row/\∀ k,row=H k->W0.heap.size<=k/\k<hi0)/\nh (T.sl e) W0 hi0 m0 W' [J A' L c''] (xs++ys):=by
 obtain⟨A3,c3,hv,h1,h2,h3,h4⟩:=hy;injection hv with hv _
 injection hv with hA hn hc
 subst hA hn hc;rcases N3 ys.length with h0 | h0
 ·have a1:ys = []:=List.eq_nil_of_length_eq_zero h0
  subst a1;subst hL;cases A2 with
  | none=>exact⟨A,c,W,AU hE h.fresh _,⟨V,World.grownBy.refl W V,fun k hk=>by simp at hk⟩,by
    obtain⟨S,h1,h2,h3⟩:=h
    exact⟨S,by simpa using h1,h2,fun b hb=>.inl (h3 b hb)⟩⟩
  | some ad=>
   exact xn hE h (ad:=ad) (m:=0) (news:=[]) (ys:=[]) (Sy:=[]) ⟨rfl,rfl⟩ rfl (fun j u hu=>by simp at hu) (by simp) hm0 (by simp) rfl hb h63
 ·obtain⟨g,off,rfl,a2,h5⟩:=h4 h0
  obtain⟨cs,hr,hl,hc⟩:=xG (w':=W) hf (g:=g) (off:=off) ys 0 (fun i x hx=>by
   obtain⟨ec,hR,a0⟩:=h5 i x hx
   exact⟨ec,hR,fun j u hu=>by rw[Mb];exact a0 j u hu⟩)
  exact xn hE h (ad:=⟨g,off,V⟩) hr rfl (fun j u hu=>by rw[Oi];simpa using hc j u hu) (by simp) hm0 (by simp) hL hb h63
end
section
variable {P:Program} {t:TypeId} {Nl:Nat} {ops:Array Oper} {rest:Q Oper} {o:Oper} {a:Act} {Ld:Exit->Act->N->Prop} {Le:Act->N->Prop}
theorem uw {A:K Mh} {c:Nat} {v2 v':LA} {W':N} (s x:Operand)(ho:o.op=.call { callee:=.builtin .append,args:=#[s,x],argTypes:=#[t,t] })(hs:a.eval s=J A n c)(hx:a.eval x=v2)
  (hrun:(Nj #[t,t] o.type #[J A n c,v2]).run P W=.ok v' W') (h:Le (a.put o.dst v') W'):o.wp P a W Le Ld:=by
 unfold Oper.wp execOp;simp only[ho,resolve,invoke,builtin,Sem.run_bind,Sem.run_pure,Result.andThen_ok,List.map_toArray,NI,List.map_nil,hs,hx,hrun];exact h
theorem sI {g:Prop} (f:g:=by
  obtain⟨os,d,rfl⟩:=hg.grown hgr (fun k hk=>(hrow k hk).1)
  exact uw s x ho hs hx hrun (hKK _ _ (hK A' c'' os d (hF.fresh (Lz _))))):g:=f
theorem AX (hgd:o.guard=V)(s x:Operand)(hE:iI P t e T Nl)(hf:kK T){W0 W:N}{A:K Mh}{n c:Nat}{xs:Q α}(h:gM (T.sl e) W0 W [J A n c] xs)(hg:fF W0 W)
  {B:Nat} {e':TypeId} {A2:K Mh} {m c2:Nat} {ys:Q α} (hy:(T.sl e').R W B [J A2 m c2] ys)
  (ho:o.op=.call { callee:=.builtin .append,args:=#[s,x],argTypes:=#[t,t] }) (hs:a.eval s=J A n c) (hx:a.eval x=J A2 m c2)
  {L:Nat} (hL:L=n+m) (hb:L*Nl<=140737488355328) (h63:L<=9223372036854775807)
  (hK:∀ A' c'' os d,gM (T.sl e) W0 (fO W0 os d) [J A' L c''] (xs++ys)->wpList P ops Ld rest (a.put o.dst (J A' L c'')) (fO W0 os d)):wpList P ops Ld (o::rest) a W:=
 Ot hgd fun Le hKK=>by
  obtain⟨A',c'',W',hrun,⟨row,hgr,hrow⟩,hF⟩:=EV (P:=P) (ty:=o.type) hE hf hg.size h.qC hy hL hb h63;exact sI
theorem Fx (hE:iI P t e T Nl){W0 W We:N}{ty:TypeId}{hi0 g cc m0:Nat}(hm0:m0<=W.heap.size)(hm1:m0<=We.heap.size){A:K Mh}{n c:Nat}{xs:Q α}(h:kv (T.sl e) W0 hi0 W [J A n c] xs)
  {ec:Q LA} {y:α} (hy:gM T We W ec y) (hhi:hi0<=We.heap.size) (hWe:W0.heap.size<=We.heap.size) (hcell:∀(j:Nat) (u:LA),ec[j]?=H u->Lg W ⟨g,j,V⟩=H u)
  {L:Nat} (hL:L=n+1) (hb:L*Nl<=140737488355328) (h63:L<=9223372036854775807) :
  ∃ A' c'' W',(Nj #[t,t] ty #[J A n c,J (H ⟨g,0,V⟩) 1 cc]).run P W=.ok (J A' L c'') W'/\(∃ row,W.grownBy W' row/\∀ k,row=H k->W0.heap.size<=k/\k<hi0)/\nh (T.sl e) W0 hi0 m0 W' [J A' L c''] (xs++[y]):=by
 obtain⟨Sy,hO,a1,a0⟩:=hy
 exact xn (P:=P) (ty:=ty) hE h (ad:=⟨g,0,V⟩) (m:=1) (c':=cc) (ys:=[y]) (news:=ec) (Sy:=Sy)
   ⟨ec,[],Sy,[],by simp,by simp,hO,rfl,rfl⟩ rfl
   (fun j u hu=>by rw[Oi,Mb];exact hcell j u hu) a1 hm0 (fun b hb=>⟨LO hWe (a0 b hb),LO hhi (a0 b hb),LO hm1 (a0 b hb)⟩)
   hL hb h63
theorem ET (hgd:o.guard=V)(s x:Operand)(hE:iI P t e T Nl){W0 W We:N}{hi0 g cc:Nat}{A:K Mh}{n c:Nat}{xs:Q α}(h:kv (T.sl e) W0 hi0 W [J A n c] xs)(hg:fF W0 W)
  {ec:Q LA} {y:α} (hy:gM T We W ec y) (hhi:hi0<=We.heap.size) (hWe:W0.heap.size<=We.heap.size)
  (ho:o.op=.call { callee:=.builtin .append,args:=#[s,x],argTypes:=#[t,t] }) (hs:a.eval s=J A n c) (hx:a.eval x=J (H ⟨g,0,V⟩) 1 cc)
  (hcell:∀(j:Nat) (u:LA),ec[j]?=H u->Lg W ⟨g,j,V⟩=H u)
  {L:Nat} (hL:L=n+1) (hb:L*Nl<=140737488355328) (h63:L<=9223372036854775807)
  (hK:∀ A' c'' os d,gM (T.sl e) W0 (fO W0 os d) [J A' L c''] (xs++[y])->wpList P ops Ld rest (a.put o.dst (J A' L c'')) (fO W0 os d)):wpList P ops Ld (o::rest) a W:=
 Ot hgd fun Le hKK=>by
  obtain⟨A',c'',W',hrun,⟨row,hgr,hrow⟩,hF⟩:=Fx (P:=P) (ty:=o.type) hE hg.size hWe h hy hhi hWe hcell hL hb h63;exact sI
theorem Hm (hf:kK T){We W W1:N}{B:Nat}{cs:Q LA}{x:α}(h:T.R W1 B cs x):gM T We W cs x:=⟨[],hf h W,by simp,by simp⟩
theorem ER (hgd:o.guard=V)(s x:Operand)(hE:iI P t e T Nl)(hf:kK T){W0 W W1:N}{hi0 B g cc:Nat}{A:K Mh}{n c:Nat}{xs:Q α}(h:kv (T.sl e) W0 hi0 W [J A n c] xs)(hg:fF W0 W)
  {ec:Q LA} {y:α} (hy:T.R W1 B ec y)
  (ho:o.op=.call { callee:=.builtin .append,args:=#[s,x],argTypes:=#[t,t] }) (hs:a.eval s=J A n c) (hx:a.eval x=J (H ⟨g,0,V⟩) 1 cc)
  (hcell:∀(j:Nat) (u:LA),ec[j]?=H u->Lg W ⟨g,j,V⟩=H u)
  {L:Nat} (hL:L=n+1) (hb:L*Nl<=140737488355328) (h63:L<=9223372036854775807)
  (hK:∀ A' c'' os d,gM (T.sl e) W0 (fO W0 os d) [J A' L c''] (xs++[y])->wpList P ops Ld rest (a.put o.dst (J A' L c'')) (fO W0 os d)):wpList P ops Ld (o::rest) a W:=
 ET hgd s x hE (h.fresh.qC) hg (We:=W) (Hm hf hy) (Lz _) hg.size ho hs hx hcell hL hb h63 hK
end
section
variable {P:Program} {t:TypeId} {Nl:Nat} {ops:Array Oper} {rest:Q Oper} {o:Oper} {a:Act} {Ld:Exit->Act->N->Prop}
theorem nh.up {α:Type} {T:Ty α} {w w1 w2:N} {hi:Nat} {cs:Q LA} {x:α} (h:nh T w hi n w1 cs x)(hg:fF w1 w2):nh T w hi n w2 cs x:=by
 obtain⟨S,h1,h2,h3⟩:=h;exact⟨S,T.jl h1 hg,h2,h3⟩
theorem nh.read {α:Type}{T:Ty α}{w w1:N}{hi n:Nat}{cs:Q LA}{x:α}(h:nh T w hi n w1 cs x):T.R w1 w1.heap.size cs x:=by
 obtain⟨S,h1,_,_⟩:=h;exact T.read h1
end
end
end Go.Proofs.YtiihkapmggfjkaaGreat
