/-
  PART.
-/
import Derived.Test.YtiihkapmggfjkaaGreatM1LawMakeDebug
import Derived.Test.YtiihkapmggfjkaaGreatM3LawMakeDebug
import Derived.Test.YtiihkapmggfjkaaGreatM4LawMakeDebug
set_option linter.unusedVariables false
set_option linter.unusedSimpArgs false
set_option maxRecDepth 100000
set_option maxHeartbeats 8000000
namespace Go.Proofs.YtiihkapmggfjkaaGreat
open Value renaming slice->J,int->F,bool->X,string->G,ownBlock->Nq
open IntKind renaming i64->I
open Option renaming none->V,some->H
open Obj renaming cells->C
open Bool renaming false->U,true->M
open Go renaming World->N,Value->LA,Calls->LR,Addr->Mh,bytes->Nl,yielded->NA
open World renaming cell?->Lg
open RowKit renaming intOf->Ml
open _root_.Array renaming length_toList->Mx
open Region renaming wanted->MI
open Builtin renaming append_->Nj
open Tryz
open Go.RowKit
variable {S:Q Nat}{W W' w:N}{cs:Q LA}{j:Nat}
def qX (c:UInt8):Bool:=decide (97<=(c.toNat:Int)) && decide ((c.toNat:Int)<=122)
def mZ (s:D):Bool:=s.data.toList.all qX && gW s.size 1 8
theorem yz (s:D)(k:Nat)(h:k<s.size):s.data.toList[k]?=H s[k]:=by
 rw[Lo (by simpa using h)];rfl
theorem F6 {α:Type} {xs:Q α} {f:α->Bool} {x:α} (h:xs[j]?=H x)(ha:(xs.take j).all f=M)(hf:f x=M):(xs.take (j+1)).all f=M:=by
 rw[lJ h,OD,ha];simp[hf]
theorem BH {α:Type} {xs:Q α} {f:α->Bool} {x:α} (h:xs[j]?=H x)(hf:f x=U):xs.all f=U:=by
 rw[List.all_eq_false];exact⟨x,LP h,by simp[hf]⟩
theorem rF {g:Prop} (f:g:=by
  by_cases h1:97<=(s[k].toNat:Int)
  ·by_cases h2:(s[k].toNat:Int)<=122
   ·go_wp2
    go_round
    exact⟨k+1,by omega,by go_num,fE (F6 HX.out ha.out (by simp only[qX,LC,LQ];exact⟨h1,h2⟩))⟩
    exact gL
   ·have HF:=fE (BH (f:=qX) HX.out (by simp only[qX,NS,Me];exact .inr h2))
    go_wp2
    go_ret
    exact⟨zy (by unfold mZ;rw[HF.out];rfl),rfl⟩
  ·have HF:=fE (BH (f:=qX) HX.out (by simp only[qX,NS,Me];exact .inl h1))
   go_wp2
   go_ret
   exact⟨zy (by unfold mZ;rw[HF.out];rfl),rfl⟩):g:=f
theorem uY (s:D)(w:N)(hs:s.size<=9223372036854775807):LR prog 185 #[G s] w fun e w'=>e=.returned (X (mZ s))/\w=w':=by
 go_enter func185,ntmps185;go_wp2_with(fail);go_loop [3] (fun i=>∃ k:Nat,k<=s.size/\i=F I k/\Hid ((s.data.toList.take k).all qX=M)) (fun i=>s.size-(Ml i).toNat)
 case atStart=>exact⟨0,Lv _,rfl,fE (by simp)⟩
 case round=>
  obtain⟨k,hk,rfl,ha⟩:=hrel;by_cases hlt:k<s.size
  ·have HX:=fE (yz s k hlt)
   exact rF
  ·have a0:k=s.size:=by omega
   subst a0;have HA:=fE (show mZ s=gW s.size 1 8 from by unfold mZ;rw[<-MJ (l:=s.data.toList)];have:=ha.out;rw[show s.size=s.data.toList.length from by rw[Mx];rfl] at this;rw[this];rfl);clear ha;go_wp2_with(first | (go_at_call 43;(with_reducible refine(jr _ _ _ _).mono ?_);rintro e w1 ⟨rfl,rfl⟩));go_ret;exact⟨zy HA.out.symm,rfl⟩
theorem wg (s:D)(w:N)(hs:s.size<=9223372036854775807):LR prog 172 #[G s] w fun e w'=>e=.returned (X (mZ s))/\w=w':=by
 go_enter func172,ntmps172;go_wp2_with(fail);go_loop [3] (fun i=>∃ k:Nat,k<=s.size/\i=F I k/\Hid ((s.data.toList.take k).all qX=M)) (fun i=>s.size-(Ml i).toNat)
 case atStart=>exact⟨0,Lv _,rfl,fE (by simp)⟩
 case round=>
  obtain⟨k,hk,rfl,ha⟩:=hrel;by_cases hlt:k<s.size
  ·have HX:=fE (yz s k hlt)
   exact rF
  ·have a0:k=s.size:=by omega
   subst a0;have HA:=fE (show mZ s=gW s.size 1 8 from by unfold mZ;rw[<-MJ (l:=s.data.toList)];have:=ha.out;rw[show s.size=s.data.toList.length from by rw[Mx];rfl] at this;rw[this];rfl);clear ha;go_wp2_with(first | (go_at_call 33;(with_reducible refine(lj _ _ _ _).mono ?_);rintro e w1 ⟨rfl,rfl⟩));go_ret;exact⟨zy HA.out.symm,rfl⟩
def Has {α:Type}(T:Ty α)(W:N)(cs:Q LA)(x:α)(S:Q Nat):Prop:=T.O W cs x S/\S.Nodup
theorem Has.lt {α:Type} {T:Ty α} {x:α} (h:Has T W cs x S):∀ b∈S,b<W.heap.size:=T.jB h.1
theorem Has.read {α:Type}{T:Ty α}{W:N}{cs:Q LA}{x:α}{S:Q Nat}(h:Has T W cs x S):T.R W W.heap.size cs x:=T.read h.1
theorem Has.fU {α:Type} {T:Ty α} {x:α} {L:Q Nat} (h:Has T W cs x S)(ho:fJ L W W')(hd:∀ b∈S,b∉L):Has T W' cs x S:=
 ⟨T.hJ h.1 (fun k hk=>ho.block k (h.lt k hk) (hd k hk)),h.2⟩
theorem Has.fO {α:Type} {T:Ty α} {x:α} (h:Has T W cs x S)(hg:fF W W'):Has T W' cs x S:=⟨T.jl h.1 hg,h.2⟩
theorem Has.fresh {α:Type} {T:Ty α} {x:α} (h:Has T W cs x S)(hl:∀ b∈S,w.heap.size<=b):gM T w W cs x:=⟨S,h.1,h.2,hl⟩
theorem gM.has {α:Type} {T:Ty α} {x:α} (h:gM T w W cs x):∃ S,Has T W cs x S/\∀ b∈S,w.heap.size<=b:=by
 obtain⟨S,h1,h2,h3⟩:=h;exact⟨S,⟨h1,h2⟩,h3⟩
theorem Has.same {α:Type} {T:Ty α} {x:α} {n:Nat} (h:Has T W cs x S)(hl:∀ b∈S,n<=b)(hs:gX n W.heap.size W W'):Has T W' cs x S:=
 ⟨T.hJ h.1 (fun k hk=>hs k (hl k hk) (h.lt k hk)),h.2⟩
theorem Has.prod {α β:Type}{T:Ty α}{K8:Ty β}{W:N}{c1 c2:Q LA}{x:α × β}{S:Q Nat}(hl:c1.length=T.size)(h:Has (T.prod K8) W (c1++c2) x S):∃ S1 S2,Has T W c1 x.1 S1/\Has K8 W c2 x.2 S2/\(∀ b∈S1,b∈S)/\(∀ b∈S2,b∈S)/\∀ b∈S1,b∉S2:=by
 obtain⟨⟨d1,d2,S1,S2,he,rfl,h1,h2⟩,hN⟩:=h;have a0:=T.iZ h1;have h3:c1=d1/\c2=d2:=List.append_inj he (by omega);obtain⟨rfl,rfl⟩:=h3;obtain⟨n1,n2,n3,_⟩:=uq hN;exact⟨S1,S2,⟨h1,n1⟩,⟨h2,n2⟩,fun b hb=>LW _ hb,fun b hb=>Mc _ hb,n3⟩
theorem Has.nil {α:Type} (T:Ty α)(e:TypeId)(W:N):Has (T.sl e) W [J V 0 0] [] []:=by
 obtain⟨S,h1,h2,h3⟩:=Ic (T:=T) (e:=e) W W;refine⟨?_,by simp⟩;obtain⟨A',c',a0,S',h4,h5,h6,h7⟩:=h1;injection h4 with h4 _
 injection h4 with hA hn hc
 subst hA hc;obtain⟨h8,h9⟩:=h6;exact⟨V,0,a0,[],rfl,h5,⟨h8,rfl⟩,rfl⟩
theorem Has.emp {α:Type} (T:Ty α){e:TypeId}{W:N}{g:Nat}(hg:W.heap[g]?=H (C #[] e (0,0))):Has (T.sl e) W [J (H ⟨g,0,V⟩) 0 0] [] [g]:=
 ⟨qq (T:=T) (xs:=[]) hg ⟨rfl,rfl⟩ (by simp),by simp⟩
section
variable {α:Type} {T:Ty α} {e:TypeId} {P:Program} {t ty:TypeId} {Nl:Nat}
theorem vG (hE:iI P t e T Nl){W:N}{S:Q Nat}{A:K Mh}{n c:Nat}{xs:Q α}(h:Has (T.sl e) W [J A n c] xs S)
  {ad:Mh} {m c':Nat} {ys:Q α} {news:Q LA} {Sy:Q Nat} (hr:Rows T W news ys Sy) (hm:m=ys.length) (hcell:∀ j u,news[j]?=H u->W.cell? (ad.add j)=H u)
  (hSy:Sy.Nodup) (hd:∀ b∈S,b∉Sy) {L:Nat} (hL:L=n+m) (hb:L*Nl<=140737488355328) (h63:L<=9223372036854775807) :
  ∃ A' c'' W' S',(Nj #[t,t] ty #[J A n c,J (H ad) m c']).run P W=.ok (J A' L c'') W'/\fJ S W W'/\Has (T.sl e) W' [J A' L c''] (xs++ys) S'/\∀ b∈S',b∈S∨b∈Sy∨W.heap.size<=b:=by
 subst hL;obtain⟨hO,hN⟩:=h;obtain⟨A1,c1,a5,S',hv,aa,hrow,rfl⟩:=hO;injection hv with hv _
 injection hv with hA hn hc
 subst hA hc;have a7:n=xs.length:=hn;obtain⟨i,z,hi,hz,a4,a9,ac⟩:=hE.info;have a6:news.length=m*T.size:=by rw[hr.len,hm]
 obtain⟨v',W',a8,hown,a0,_,hat⟩:=run_append_own_at (P:=P) W 0 t ty e i z T.size Nl hE.ht hi hz a4 a9 ac hE.pos (J A xs.length c) xs.length a5 aa ad m c' news a6 hcell hr.one
  (by rw[<-a7];simpa[maxLen] using h63) (by rw[<-a7];exact hb) (Lv _)
 subst a7
 have a1:∀ k,k<W.heap.size->(∀ b∈jQ A,k≠b)->W'.heap[k]?=W.heap[k]?:=fun k hk hne=>a0.block k hk (by
  cases A with
  | none=>simp[Nq]
  | some a=>simpa[Nq,jQ] using hne)
 rw[Ms] at hN;obtain⟨ae,hN2,hN3⟩:=hN;have a3:Rows T W' a5 xs S':=hrow.fU (fun k hk=>a1 k (hrow.lt k hk) (fun b hb=>(hN3 b hb k hk).symm));have ab:Rows T W' news ys Sy:=hr.fU (fun k hk=>a1 k (hr.lt k hk) (fun b hb heq=>hd b (LW _ hb) (heq ▸ hk)))
 have a2:∃ A' c'',v'=J A' (xs.length+m) c''/\∀ b∈jQ A',b∈jQ A∨b=W.heap.size:=by
  exact rP
 obtain⟨A',c'',rfl,hA'⟩:=a2
 refine⟨A',c'',W',jQ A'++(S'++Sy),a8,⟨a0.os,a0.tape,a0.output,a0.size,fun k hk hn=>a1 k hk (fun b hb heq=>hn (LW _ (heq ▸ hb)))⟩,
  ⟨⟨A',c'',a5++news,S'++Sy,by rw[Lj,hm],by rw[Lj,<-hm];exact hown,a3.app ab,rfl⟩,?_⟩,?_⟩
 ·rw[Ms]
  exact rJ
 ·intro b hb
  rcases LG.1 hb with hb | hb
  ·rcases hA' b hb with h | h
   ·exact .inl (LW _ h)
   ·exact .inr (.inr (by omega))
  ·rcases LG.1 hb with hb | hb
   ·exact .inl (Mc _ hb)
   ·exact .inr (.inl hb)
theorem EU (hE:iI P t e T Nl){W:N}{S:Q Nat}{A:K Mh}{n c:Nat}{xs:Q α}(h:Has (T.sl e) W [J A n c] xs S)(c':Nat) :
  (Nj #[t,t] ty #[J A n c,J V 0 c']).run P W=.ok (J A n c) W:=
 AU (W0:={ W with heap:=#[] }) hE ⟨S,h.1,h.2,fun b _=>Lv _⟩ c'
end
section
variable {α:Type} {T:Ty α} {e:TypeId} {P:Program} {t:TypeId} {Nl:Nat} {ops:Array Oper} {rest:Q Oper} {o:Oper} {a:Act} {Ld:Exit->Act->N->Prop} {Le:Act->N->Prop}
theorem xk {E:Prop} (hgd:o.guard=V)(s x:Operand)(hE:iI P t e T Nl){W:N}{g cc:Nat}{S Sy:Q Nat}{A:K Mh}{n c:Nat}{xs:Q α}(h:Has (T.sl e) W [J A n c] xs S)
  {ec:Q LA} {y:α} (hy:Has T W ec y Sy) (hd:∀ b∈S,b∉Sy)
  (ho:o.op=.call { callee:=.builtin .append,args:=#[s,x],argTypes:=#[t,t] }) (hs:a.eval s=J A n c) (hx:a.eval x=J (H ⟨g,0,V⟩) 1 cc)
  (hcell:∀(j:Nat) (u:LA),ec[j]?=H u->Lg W ⟨g,j,V⟩=H u)
  {L:Nat} (hL:L=n+1) (hb:L*Nl<=140737488355328) (h63:L<=9223372036854775807)
  (hK:∀ A' c'' W' S',fJ S W W'->Has (T.sl e) W' [J A' L c''] (xs++[y]) S'->(∀ b∈S',b∈S∨b∈Sy∨W.heap.size<=b)->Le (a.put o.dst (J A' L c'')) W'):if MI o (NA ops a.tmps)=M then Oper.wp P o a W Le Ld else E:=by
 have hw:MI o (NA ops a.tmps)=M:=by simp[MI,hgd]
 rw[Lu hw];obtain⟨A',c'',W',S',a0,a2,hF,a1⟩:=vG (P:=P) (ty:=o.type) hE h (ad:=⟨g,0,V⟩) (m:=1) (c':=cc) (ys:=[y]) (news:=ec) (Sy:=Sy) ⟨ec,[],Sy,[],by simp,by simp,hy.1,rfl,rfl⟩ rfl (fun j u hu=>by rw[Oi,Mb];exact hcell j u hu) hy.2 hd hL hb h63;exact uw s x ho hs hx a0 (hK A' c'' W' S' a2 hF a1)
theorem vA (hgd:o.guard=V)(s x:Operand)(hE:iI P t e T Nl){W:N}{g cc:Nat}{S Sy:Q Nat}{A:K Mh}{n c:Nat}{xs:Q α}(h:Has (T.sl e) W [J A n c] xs S)
  {ec:Q LA} {y:α} (hy:Has T W ec y Sy) (hd:∀ b∈S,b∉Sy)
  (ho:o.op=.call { callee:=.builtin .append,args:=#[s,x],argTypes:=#[t,t] }) (hs:a.eval s=J A n c) (hx:a.eval x=J (H ⟨g,0,V⟩) 1 cc)
  (hcell:∀(j:Nat) (u:LA),ec[j]?=H u->Lg W ⟨g,j,V⟩=H u)
  {L:Nat} (hL:L=n+1) (hb:L*Nl<=140737488355328) (h63:L<=9223372036854775807)
  (hK:∀ A' c'' W' S',fJ S W W'->Has (T.sl e) W' [J A' L c''] (xs++[y]) S'->(∀ b∈S',b∈S∨b∈Sy∨W.heap.size<=b)->wpList P ops Ld rest (a.put o.dst (J A' L c'')) W'):wpList P ops Ld (o::rest) a W:=
 Ot hgd fun Le hKK=>by
  obtain⟨A',c'',W',S',a0,a2,hF,a1⟩:=vG (P:=P) (ty:=o.type) hE h (ad:=⟨g,0,V⟩) (m:=1) (c':=cc) (ys:=[y]) (news:=ec) (Sy:=Sy) ⟨ec,[],Sy,[],by simp,by simp,hy.1,rfl,rfl⟩ rfl (fun j u hu=>by rw[Oi,Mb];exact hcell j u hu) hy.2 hd hL hb h63;exact uw s x ho hs hx a0 (hKK _ _ (hK A' c'' W' S' a2 hF a1))
theorem zO {E:Prop} (hgd:o.guard=V)(s x:Operand)(hE:iI P t e T Nl)(hf:kK T){W W1:N}{B g cc:Nat}{S:Q Nat}{A:K Mh}{n c:Nat}{xs:Q α}(h:Has (T.sl e) W [J A n c] xs S)
  {ec:Q LA} {y:α} (hy:T.R W1 B ec y)
  (ho:o.op=.call { callee:=.builtin .append,args:=#[s,x],argTypes:=#[t,t] }) (hs:a.eval s=J A n c) (hx:a.eval x=J (H ⟨g,0,V⟩) 1 cc)
  (hcell:∀(j:Nat) (u:LA),ec[j]?=H u->Lg W ⟨g,j,V⟩=H u)
  {L:Nat} (hL:L=n+1) (hb:L*Nl<=140737488355328) (h63:L<=9223372036854775807)
  (hK:∀ A' c'' W' S',fJ S W W'->Has (T.sl e) W' [J A' L c''] (xs++[y]) S'->(∀ b∈S',b∈S∨W.heap.size<=b)->Le (a.put o.dst (J A' L c'')) W'):if MI o (NA ops a.tmps)=M then Oper.wp P o a W Le Ld else E:=
 xk hgd s x hE h (Sy:=[]) ⟨hf hy W,by simp⟩ (by simp) ho hs hx hcell hL hb h63 (fun A' c'' W' S' h1 h2 h3=>hK A' c'' W' S' h1 h2 (fun b hb=>by have:=h3 b hb;simpa using this))
theorem zr (hgd:o.guard=V)(s x:Operand)(hE:iI P t e T Nl)(hf:kK T){W W1:N}{B g cc:Nat}{S:Q Nat}{A:K Mh}{n c:Nat}{xs:Q α}(h:Has (T.sl e) W [J A n c] xs S)
  {ec:Q LA} {y:α} (hy:T.R W1 B ec y)
  (ho:o.op=.call { callee:=.builtin .append,args:=#[s,x],argTypes:=#[t,t] }) (hs:a.eval s=J A n c) (hx:a.eval x=J (H ⟨g,0,V⟩) 1 cc)
  (hcell:∀(j:Nat) (u:LA),ec[j]?=H u->Lg W ⟨g,j,V⟩=H u)
  {L:Nat} (hL:L=n+1) (hb:L*Nl<=140737488355328) (h63:L<=9223372036854775807)
  (hK:∀ A' c'' W' S',fJ S W W'->Has (T.sl e) W' [J A' L c''] (xs++[y]) S'->(∀ b∈S',b∈S∨W.heap.size<=b)->wpList P ops Ld rest (a.put o.dst (J A' L c'')) W'):wpList P ops Ld (o::rest) a W:=
 vA hgd s x hE h (Sy:=[]) ⟨hf hy W,by simp⟩ (by simp) ho hs hx hcell hL hb h63 (fun A' c'' W' S' h1 h2 h3=>hK A' c'' W' S' h1 h2 (fun b hb=>by have:=h3 b hb;simpa using this))
theorem AZ (hE:iI P t e T Nl)(hf:kK T){ty:TypeId}{W:N}{S:Q Nat}{A:K Mh}{n c:Nat}{xs:Q α}(h:Has (T.sl e) W [J A n c] xs S)
  {B:Nat} {e':TypeId} {A2:K Mh} {m c2:Nat} {ys:Q α} (hy:(T.sl e').R W B [J A2 m c2] ys)
  {L:Nat} (hL:L=n+m) (hb:L*Nl<=140737488355328) (h63:L<=9223372036854775807) :
  ∃ A' c'' W' S',(Nj #[t,t] ty #[J A n c,J A2 m c2]).run P W=.ok (J A' L c'') W'/\fJ S W W'/\Has (T.sl e) W' [J A' L c''] (xs++ys) S'/\∀ b∈S',b∈S∨W.heap.size<=b:=by
 obtain⟨A3,c3,hv,h1,h2,h3,h4⟩:=hy;injection hv with hv _
 injection hv with hA hn hc
 subst hA hn hc;rcases N3 ys.length with h0 | h0
 ·have a1:ys = []:=List.eq_nil_of_length_eq_zero h0
  subst a1;subst hL;cases A2 with
  | none=>exact⟨A,c,W,S,EU hE h _,fJ.refl _ _,by simpa using h,fun b hb=>.inl hb⟩
  | some ad=>
   obtain⟨A',c'',W',S',k1,k2,k3,k4⟩:=vG (P:=P) (ty:=ty) hE h (ad:=ad) (m:=0) (c':=c2) (news:=[]) (ys:=[]) (Sy:=[]) ⟨rfl,rfl⟩ rfl (fun j u hu=>by simp at hu) (by simp) (by simp) rfl hb h63;exact⟨A',c'',W',S',k1,k2,k3,fun b hb=>by have:=k4 b hb;simpa using this⟩
 ·obtain⟨g,off,rfl,a2,h5⟩:=h4 h0
  obtain⟨cs,hr,hl,hc⟩:=xG (w':=W) hf (g:=g) (off:=off) ys 0 (fun i x hx=>by
   obtain⟨ec,hR,a0⟩:=h5 i x hx
   exact⟨ec,hR,fun j u hu=>by rw[Mb];exact a0 j u hu⟩)
  obtain⟨A',c'',W',S',k1,k2,k3,k4⟩:=vG (P:=P) (ty:=ty) hE h (ad:=⟨g,off,V⟩) hr rfl (fun j u hu=>by rw[Oi];simpa using hc j u hu) (by simp) (by simp) hL hb h63;exact⟨A',c'',W',S',k1,k2,k3,fun b hb=>by have:=k4 b hb;simpa using this⟩
theorem uv {E:Prop} (hgd:o.guard=V)(s x:Operand)(hE:iI P t e T Nl)(hf:kK T){W:N}{S:Q Nat}{A:K Mh}{n c:Nat}{xs:Q α}(h:Has (T.sl e) W [J A n c] xs S)
  {B:Nat} {e':TypeId} {A2:K Mh} {m c2:Nat} {ys:Q α} (hy:(T.sl e').R W B [J A2 m c2] ys)
  (ho:o.op=.call { callee:=.builtin .append,args:=#[s,x],argTypes:=#[t,t] }) (hs:a.eval s=J A n c) (hx:a.eval x=J A2 m c2)
  {L:Nat} (hL:L=n+m) (hb:L*Nl<=140737488355328) (h63:L<=9223372036854775807)
  (hK:∀ A' c'' W' S',fJ S W W'->Has (T.sl e) W' [J A' L c''] (xs++ys) S'->(∀ b∈S',b∈S∨W.heap.size<=b)->Le (a.put o.dst (J A' L c'')) W'):if MI o (NA ops a.tmps)=M then Oper.wp P o a W Le Ld else E:=by
 have hw:MI o (NA ops a.tmps)=M:=by simp[MI,hgd]
 rw[Lu hw];obtain⟨A',c'',W',S',a0,a2,hF,a1⟩:=AZ (P:=P) (ty:=o.type) hE hf h hy hL hb h63;exact uw s x ho hs hx a0 (hK A' c'' W' S' a2 hF a1)
theorem qH (hgd:o.guard=V)(s x:Operand)(hE:iI P t e T Nl)(hf:kK T){W:N}{S:Q Nat}{A:K Mh}{n c:Nat}{xs:Q α}(h:Has (T.sl e) W [J A n c] xs S)
  {B:Nat} {e':TypeId} {A2:K Mh} {m c2:Nat} {ys:Q α} (hy:(T.sl e').R W B [J A2 m c2] ys)
  (ho:o.op=.call { callee:=.builtin .append,args:=#[s,x],argTypes:=#[t,t] }) (hs:a.eval s=J A n c) (hx:a.eval x=J A2 m c2)
  {L:Nat} (hL:L=n+m) (hb:L*Nl<=140737488355328) (h63:L<=9223372036854775807)
  (hK:∀ A' c'' W' S',fJ S W W'->Has (T.sl e) W' [J A' L c''] (xs++ys) S'->(∀ b∈S',b∈S∨W.heap.size<=b)->wpList P ops Ld rest (a.put o.dst (J A' L c'')) W'):wpList P ops Ld (o::rest) a W:=
 Ot hgd fun Le hKK=>by
  obtain⟨A',c'',W',S',a0,a2,hF,a1⟩:=AZ (P:=P) (ty:=o.type) hE hf h hy hL hb h63;exact uw s x ho hs hx a0 (hKK _ _ (hK A' c'' W' S' a2 hF a1))
end
def mW {α:Type}(T:Ty α)(lo hi:Nat)(W:N)(cs:Q LA)(x:α):Prop:=∃ S,T.O W cs x S/\S.Nodup/\∀ b∈S,lo<=b/\b<hi
def ly {α:Type}(T:Ty α)(lo hi n:Nat)(W:N)(cs:Q LA)(x:α):Prop:=∃ S,T.O W cs x S/\S.Nodup/\∀ b∈S,(lo<=b/\b<hi)∨n<=b
section
variable {α:Type} {T:Ty α} {w w1 w2:N} {lo hi n:Nat} {cs:Q LA} {x:α}
theorem gM.AQ (h:gM T w w1 cs x):mW T w.heap.size w1.heap.size w1 cs x:=h.qC
theorem mW.same (h:mW T lo hi w1 cs x)(hs:gX lo hi w1 w2):mW T lo hi w2 cs x:=by
 exact sX
theorem mW.fO (h:mW T lo hi w1 cs x)(hg:fF w1 w2):mW T lo hi w2 cs x:=by
 obtain⟨S,h1,h2,h3⟩:=h;exact⟨S,T.jl h1 hg,h2,h3⟩
theorem mW.read (h:mW T lo hi w1 cs x):T.R w1 w1.heap.size cs x:=by
 obtain⟨S,h1,_,_⟩:=h;exact T.read h1
theorem mW.two (h:mW T lo hi w1 cs x):ly T lo hi n w1 cs x:=by
 obtain⟨S,h1,h2,h3⟩:=h;exact⟨S,h1,h2,fun b hb=>.inl (h3 b hb)⟩
theorem ly.same (h:ly T lo hi n w1 cs x)(hs:gX lo hi w1 w2)(ht:gX n w1.heap.size w1 w2):ly T lo hi n w2 cs x:=by
 exact sH
theorem ly.fO (h:ly T lo hi n w1 cs x)(hg:fF w1 w2):ly T lo hi n w2 cs x:=by
 obtain⟨S,h1,h2,h3⟩:=h;exact⟨S,T.jl h1 hg,h2,h3⟩
theorem ly.read (h:ly T lo hi n w1 cs x):T.R w1 w1.heap.size cs x:=by
 obtain⟨S,h1,_,_⟩:=h;exact T.read h1
theorem ly.fresh (h:ly T lo hi n w1 cs x)(h1:w.heap.size<=lo)(h2:w.heap.size<=n):gM T w w1 cs x:=by
 obtain⟨S,h3,h4,h5⟩:=h;exact⟨S,h3,h4,fun b hb=>by have:=h5 b hb;omega⟩
theorem mW.fresh (h:mW T lo hi w1 cs x)(h1:w.heap.size<=lo):gM T w w1 cs x:=by
 obtain⟨S,h3,h4,h5⟩:=h;exact⟨S,h3,h4,fun b hb=>by have:=h5 b hb;omega⟩
end
section
variable {α:Type} {T:Ty α} {e:TypeId} {P:Program} {t:TypeId} {Nl:Nat} {ops:Array Oper} {o:Oper} {a:Act} {Ld:Exit->Act->N->Prop} {Le:Act->N->Prop}
end
end Go.Proofs.YtiihkapmggfjkaaGreat
