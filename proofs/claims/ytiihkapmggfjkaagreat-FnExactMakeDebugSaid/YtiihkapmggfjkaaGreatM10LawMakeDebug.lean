/-
  PART.
-/
import Derived.Test.YtiihkapmggfjkaaGreatM6LawMakeDebug
import Derived.Test.YtiihkapmggfjkaaGreatM7LawMakeDebug
set_option linter.unusedVariables false
set_option linter.unusedSimpArgs false
set_option maxRecDepth 100000
set_option maxHeartbeats 8000000
namespace Go.Proofs.YtiihkapmggfjkaaGreat
open Value renaming slice->J
open Option renaming none->V,some->H
open Obj renaming cells->C
open Bool renaming false->U,true->M
open Go renaming World->N,Value->LA,Addr->Mh,bytes->Nl,yielded->NA
open World renaming cell?->Lg,frozen?->LD
open _root_.Array renaming length_toList->Mx
open Region renaming wanted->MI,ready->MK,Mode->Nz
open Go.RowKit
variable {S:Q Nat}{W W' w:N}{a:Act}{cur:Array LA}{e:TypeId}{f g i j k lo n:Nat}{listed:Array Bool}{o:Oper}{o0 o1 o2 o3 o4 o5 o6 p q v:LA}
def cut (W:N)(n:Nat):N:={ W with heap:=W.heap.extract 0 n }
theorem IM (h:n<=W.heap.size):(cut W n).heap.size=n:=by
 simp only[cut,Array.size_extract];omega
theorem Jf (h:n<=W.heap.size)(hi:i<n):(cut W n).heap[i]?=W.heap[i]?:=by
 simp only[cut];rw[Array.getElem?_extract,Lu (by omega),Mb]
theorem fF.cut {w W:N}{n:Nat}(h:fF w W)(hn:w.heap.size<=n)(h2:n<=W.heap.size):fF w (cut W n):=by
 have hb:=h.below;exact fF.kA ⟨hb.os,hb.tape,hb.output,by rw[IM h2];exact hn,fun k hk=>by rw[Jf h2 (by omega)];exact hb.block k hk⟩
theorem fJ.below {a:N} (h:fJ S a W)(hb:Below lo W W')(hl:a.heap.size<=lo):fJ S a W':=
 ⟨hb.os.trans h.os,hb.tape.trans h.tape,hb.output.trans h.output,LO h.size hb.size,fun i hi hn=>(hb.block i (by omega)).trans (h.block i hi hn)⟩
theorem mW.only {α:Type} {T:Ty α} {hi:Nat} {a b:N} {cs:Q LA} {x:α} (h:mW T lo hi a cs x)(hs:fJ [k] a b)(hk:k<lo):mW T lo hi b cs x:=by
 obtain⟨S,h1,h2,h3⟩:=h;exact⟨S,T.hJ h1 (fun j hj=>hs.block j (T.jB h1 j hj) (by have:=h3 j hj;simp;omega)),h2,h3⟩
section
variable {α:Type} {T:Ty α} {e:TypeId} {P:Program} {t:TypeId} {Nl:Nat} {ops:Array Oper} {rest:Q Oper} {o:Oper} {a:Act} {Ld:Exit->Act->N->Prop} {Le:Act->N->Prop}
end
theorem KB {a b:LA} (h:W.heap[g]?=H (C #[a,b] e (0,0))) :
  Lg W ⟨g,0,V⟩=H a/\Lg W ⟨g,1,V⟩=H b/\LD W ⟨g,0,V⟩=U/\LD W ⟨g,1,V⟩=U/\g<W.heap.size:=by
 refine⟨?_,?_,by simp[LD,h],by simp[LD,h],(blt h)⟩
 all_goals
  rw[MD W g _ _ _ (0,0) h]
  rfl
theorem wU (h:W.heap[g]?=H (C #[p,q] e (0,0)))(a b:LA) :
  ((W.setCell ⟨g,0,V⟩ a).setCell ⟨g,1,V⟩ b).heap[g]?=H (C #[a,b] e (0,0))/\fJ [g] W ((W.setCell ⟨g,0,V⟩ a).setCell ⟨g,1,V⟩ b):=
 ⟨pj (pj h 0 a) 1 b,((fJ.refl _ _).setCell (p:=⟨g,0,V⟩) (by simp) a).setCell (p:=⟨g,1,V⟩) (by simp) b⟩
theorem zj {S Y:N} {o:Obj} (h:S.heap[k]?=H o)(hG:fF S Y):Y.heap[k]?=H o:=
 (hG.block (blt h)).trans h
theorem KH {r s:LA} (h:W.heap[g]?=H (C #[p,q,r,s] e (0,0)))(a b c d:LA) :
  ((((W.setCell ⟨g,0,V⟩ a).setCell ⟨g,1,V⟩ b).setCell ⟨g,2,V⟩ c).setCell ⟨g,3,V⟩ d).heap[g]?=H (C #[a,b,c,d] e (0,0))/\fJ [g] W ((((W.setCell ⟨g,0,V⟩ a).setCell ⟨g,1,V⟩ b).setCell ⟨g,2,V⟩ c).setCell ⟨g,3,V⟩ d):=
 ⟨pj (pj (pj (pj h 0 a) 1 b) 2 c) 3 d,((((fJ.refl _ _).setCell (p:=⟨g,0,V⟩) (by simp) a).setCell (p:=⟨g,1,V⟩) (by simp) b).setCell (p:=⟨g,2,V⟩) (by simp) c).setCell (p:=⟨g,3,V⟩) (by simp) d⟩
theorem Kr {α:Type} {T:Ty α} {A:K Mh} {c:Nat} {xs:Q α} (h:(T.sl e).O w [J A n c] xs S)(hS:S.Nodup){k:Nat}{x:α}(hx:xs[k]?=H x) :
  ∃ g ec Sc cur,A=H ⟨g,0,V⟩/\g∈S/\g<w.heap.size/\g∉Sc/\(∀ j∈Sc,j∈S)/\Sc.Nodup/\T.O w ec x Sc/\w.heap[g]?=H (C cur e (0,0))/\k*T.size+T.size<=cur.size/\(∀(j:Nat) (u:LA),ec[j]?=H u->cur[k*T.size+j]?=H u)/\
   (∀(w':N) (y:α) (ec':Q LA) (cur':Array LA),T.O w' ec' y Sc->w'.heap[g]?=H (C cur' e (0,0))->cur'.size=cur.size->(∀ i,i<k*T.size∨k*T.size+T.size<=i->cur'[i]?=cur[i]?)->(∀(j:Nat) (u:LA),ec'[j]?=H u->cur'[k*T.size+j]?=H u)->fJ (g::Sc) w w'->(T.sl e).O w' [J A n c] (xs.set k y) S):=by
 obtain⟨A',c',a8,S',h1,h2,h3,rfl⟩:=h;injection h1 with h1 _
 injection h1 with hA hn hc
 subst hA hn hc;have hk:k<xs.length:=(Lh.1 hx).1;obtain⟨a,ec,b,Sa,Sc,Sb,rfl,rfl,hl,ha,hO,hb⟩:=Rows.part h3 hx;obtain⟨a3,a4⟩:=h2;rcases a4 with⟨_,hn⟩ | ⟨g,al,cur,hv,a2,hg,ak,ab,ac,a1⟩
 ·omega
 ·injection hv with hA _ hc
  subst hA hc;have ai:g<w.heap.size:=(blt hg)
  simp only[jQ,List.singleton_append,NT,Ms,LG,not_or] at hS;obtain⟨⟨af,ah,ag⟩,ao,⟨a7,ap,a5⟩,ad⟩:=hS;have ae:ec.length=T.size:=T.iZ hO
  have an:(a++(ec++b)).length<=cur.size:=by
   rw[<-a1,MG];have:cur.toList.length=cur.size:=Mx;omega
  have a0:∀(j:Nat) (u:LA),(a++(ec++b))[j]?=H u->cur[j]?=H u:=by
   intro j u hu;rw[<-a1,Nc] at hu;split at hu
   ·simpa using hu
   ·cases hu
  have aj:(a++(ec++b)).length=a.length+ec.length+b.length:=by simp only[Lj];omega
  have hM:xs.length*T.size=a.length+ec.length+b.length:=by rw[<-a3,aj]
  refine⟨g,ec,Sc,cur,rfl,by simp[jQ],ai,ah,fun j hj=>by simp[hj],a7,hO,hg,by omega,fun j u hu=>?_,fun w' y ec' cur' hy hg' hsz hout hin hon=>?_⟩
  ·apply a0
   exact mT
  ·have a6:ec'.length=T.size:=T.iZ hy
   have aa:∀{S:Q Nat} {a8:Q LA} {xs:Q α},Rows T w a8 xs S->∀ i∈S,i<w.heap.size:=fun h i hi=>Rows.lt h i hi;refine⟨H ⟨g,0,V⟩,c,a++(ec'++b),_,by rw[Ma],⟨?_,.inr ⟨g,c,cur',by rw[Ma],a2,hg',by simpa using ak,ab,by rw[hsz];exact ac,?_⟩⟩,Rows.join hx (Rows.fU ha ?_) hy (Rows.fU hb ?_),rfl⟩
   ·rw[Ma,<-a3]
    simp[ae,a6]
   ·rw[Ma]
    apply Nr;intro i;have am:cur'.toList.length=cur'.size:=Mx;rw[Nc];by_cases hi:i<xs.length*T.size
    ·rw[Lu hi,Array.getElem?_toList]
     have a9:∀ u,(a++(ec++b))[i]?=H u->cur[i]?=H u:=a0 i;by_cases h1:i<k*T.size
     ·rw[hout i (.inl h1),Md (by omega)]
      have h2:i<a.length:=by omega
      rw[Lo h2];exact a9 _ (by rw[Md h2,Lo h2])
     ·by_cases h2:i<k*T.size+T.size
      ·rw[LV (by omega),Md (by omega)]
       have h3:i-a.length<ec'.length:=by omega
       rw[Lo h3];have:=hin (i-a.length) _ (Lo h3);rw[show k*T.size+(i-a.length)=i from by omega] at this;exact this
      ·rw[hout i (.inr (by omega)),LV (by omega),LV (by omega)]
       have h3:i-a.length-ec'.length<b.length:=by omega
       rw[Lo h3];refine a9 _ ?_;rw[LV (by omega),LV (by omega),show i-a.length-ec.length=i-a.length-ec'.length from by omega,Lo h3]
    ·rw[Lt hi,MZ (by simp only[Lj];omega)]
   ·exact fun i hi=>hon.block i (aa ha i hi) (fun hm=>by
     rcases LU.1 hm with rfl | hm
     ·exact af hi
     ·exact ad i hi i (.inl hm) rfl)
   ·exact fun i hi=>hon.block i (aa hb i hi) (fun hm=>by
     rcases LU.1 hm with rfl | hm
     ·exact ag hi
     ·exact a5 i hm i hi rfl)
theorem rp {α:Type} (T:Ty α){w w':N}{cs:Q LA}{x:α}{S L:Q Nat}(h:T.O w cs x S)(ho:fJ L w w')(hd:∀ b∈S,b∉L):T.O w' cs x S:=
 T.hJ h (fun k hk=>ho.block k (T.jB h k hk) (hd k hk))
theorem ug (h:g∉S):∀ b∈S,b∉[g]:=fun b hb hm=>by
 simp only[Lr] at hm;exact h (hm ▸ hb)
theorem oN (h:W.heap[g]?=H (C cur e (0,0))):∀ j,LD W ⟨g,j,V⟩=U:=fun j=>by simp[LD,h]
theorem jo {cur':Array LA} (h:W.heap[g]?=H (C cur e (0,0)))(hc:cur.setIfInBounds i v=cur'):(W.setCell ⟨g,i,V⟩ v).heap[g]?=H (C cur' e (0,0)):=by
 rw[pj h i v,hc]
theorem tM (h:W.heap[g]?=H (C #[o0,o1,o2] e (0,0))) :
  Lg W ⟨g,0,V⟩=H o0/\Lg W ⟨g,1,V⟩=H o1/\Lg W ⟨g,2,V⟩=H o2/\(∀ j,LD W ⟨g,j,V⟩=U)/\g<W.heap.size:=by
 refine⟨?_,?_,?_,fun j=>by simp[LD,h],(blt h)⟩
 all_goals
  rw[MD W g _ _ _ (0,0) h]
  rfl
theorem wV (h:W.heap[g]?=H (C #[o0,o1,o2,o3,o4] e (0,0)))(v0 v1 v2 v3 v4:LA) :
  (((((W.setCell ⟨g,0,V⟩ v0).setCell ⟨g,1,V⟩ v1).setCell ⟨g,2,V⟩ v2).setCell ⟨g,3,V⟩ v3).setCell ⟨g,4,V⟩ v4).heap[g]?=H (C #[v0,v1,v2,v3,v4] e (0,0))/\fJ [g] W (((((W.setCell ⟨g,0,V⟩ v0).setCell ⟨g,1,V⟩ v1).setCell ⟨g,2,V⟩ v2).setCell ⟨g,3,V⟩ v3).setCell ⟨g,4,V⟩ v4):=
 ⟨(jo (i:=4) (v:=v4) (cur':=#[v0,v1,v2,v3,v4]) (jo (i:=3) (v:=v3) (cur':=#[v0,v1,v2,v3,o4]) (jo (i:=2) (v:=v2) (cur':=#[v0,v1,v2,o3,o4]) (jo (i:=1) (v:=v1) (cur':=#[v0,v1,o2,o3,o4]) (jo (i:=0) (v:=v0) (cur':=#[v0,o1,o2,o3,o4]) h rfl) rfl) rfl) rfl) rfl),((((((fJ.refl _ _).setCell (p:=⟨g,0,V⟩) (by simp) v0).setCell (p:=⟨g,1,V⟩) (by simp) v1).setCell (p:=⟨g,2,V⟩) (by simp) v2).setCell (p:=⟨g,3,V⟩) (by simp) v3).setCell (p:=⟨g,4,V⟩) (by simp) v4)⟩
theorem pC (h:W.heap[g]?=H (C #[o0,o1,o2,o3,o4] e (0,0))) :
  Lg W ⟨g,0,V⟩=H o0/\Lg W ⟨g,1,V⟩=H o1/\Lg W ⟨g,2,V⟩=H o2/\Lg W ⟨g,3,V⟩=H o3/\Lg W ⟨g,4,V⟩=H o4/\(∀ j,LD W ⟨g,j,V⟩=U)/\g<W.heap.size:=by
 refine⟨?_,?_,?_,?_,?_,fun j=>by simp[LD,h],(blt h)⟩
 all_goals
  rw[MD W g _ _ _ (0,0) h]
  rfl
theorem Ez (h:W.heap[g]?=H (C #[o0,o1,o2,o3,o4,o5,o6] e (0,0)))(v0 v1 v2 v3 v4 v5 v6:LA) :
  (((((((W.setCell ⟨g,0,V⟩ v0).setCell ⟨g,1,V⟩ v1).setCell ⟨g,2,V⟩ v2).setCell ⟨g,3,V⟩ v3).setCell ⟨g,4,V⟩ v4).setCell ⟨g,5,V⟩ v5).setCell ⟨g,6,V⟩ v6).heap[g]?=H (C #[v0,v1,v2,v3,v4,v5,v6] e (0,0))/\fJ [g] W (((((((W.setCell ⟨g,0,V⟩ v0).setCell ⟨g,1,V⟩ v1).setCell ⟨g,2,V⟩ v2).setCell ⟨g,3,V⟩ v3).setCell ⟨g,4,V⟩ v4).setCell ⟨g,5,V⟩ v5).setCell ⟨g,6,V⟩ v6):=
 ⟨(jo (i:=6) (v:=v6) (cur':=#[v0,v1,v2,v3,v4,v5,v6]) (jo (i:=5) (v:=v5) (cur':=#[v0,v1,v2,v3,v4,v5,o6]) (jo (i:=4) (v:=v4) (cur':=#[v0,v1,v2,v3,v4,o5,o6]) (jo (i:=3) (v:=v3) (cur':=#[v0,v1,v2,v3,o4,o5,o6]) (jo (i:=2) (v:=v2) (cur':=#[v0,v1,v2,o3,o4,o5,o6]) (jo (i:=1) (v:=v1) (cur':=#[v0,v1,o2,o3,o4,o5,o6]) (jo (i:=0) (v:=v0) (cur':=#[v0,o1,o2,o3,o4,o5,o6]) h rfl) rfl) rfl) rfl) rfl) rfl) rfl),((((((((fJ.refl _ _).setCell (p:=⟨g,0,V⟩) (by simp) v0).setCell (p:=⟨g,1,V⟩) (by simp) v1).setCell (p:=⟨g,2,V⟩) (by simp) v2).setCell (p:=⟨g,3,V⟩) (by simp) v3).setCell (p:=⟨g,4,V⟩) (by simp) v4).setCell (p:=⟨g,5,V⟩) (by simp) v5).setCell (p:=⟨g,6,V⟩) (by simp) v6)⟩
theorem mr (h:W.heap[g]?=H (C #[o0,o1,o2,o3,o4,o5,o6] e (0,0))) :
  Lg W ⟨g,0,V⟩=H o0/\Lg W ⟨g,1,V⟩=H o1/\Lg W ⟨g,2,V⟩=H o2/\Lg W ⟨g,3,V⟩=H o3/\Lg W ⟨g,4,V⟩=H o4/\Lg W ⟨g,5,V⟩=H o5/\Lg W ⟨g,6,V⟩=H o6/\(∀ j,LD W ⟨g,j,V⟩=U)/\g<W.heap.size:=by
 refine⟨?_,?_,?_,?_,?_,?_,?_,fun j=>by simp[LD,h],(blt h)⟩
 all_goals
  rw[MD W g _ _ _ (0,0) h]
  rfl
theorem kG {K8:N} (hc:Lg K8 ⟨g,i,V⟩=H v)(hg:fF K8 W)(hon:fJ S W W')(hn:g∉S):Lg W' ⟨g,i,V⟩=H v:=by
 have hl:=MM _ _ hc;simp only at hl;obtain⟨os,d,rfl⟩:=hg;exact(hon.cell (Li hl (fF.of K8 os d).size) hn i).trans (zC hc os d)
theorem D0 {gp:Nat} {u:LA} (hc:Lg W ⟨g,i,V⟩=H v)(hn:g≠gp):(W.setCell ⟨gp,j,V⟩ u).cell? ⟨g,i,V⟩=H v:=by
 have hl:=MM _ _ hc;simp only at hl;exact(((fJ.refl [gp] W).setCell (p:=⟨gp,j,V⟩) (by simp) u).cell hl (by simpa using hn) i).trans hc
section
variable {P:Program} {ops:Array Oper} {Ld:Exit->Act->N->Prop} {md:Nz} {S:N->Prop} {m:Nat}
theorem fX.ph (ho:ops[i]?=H o)
  (h:∀ Le:Act->N->Prop,Hid (∀ a w,S w->fX P md ops Ld S m f (listed.setIfInBounds i M) a w->Le a w)->if MI o (NA ops a.tmps)=M then Oper.wp P o a w Le Ld else Le (a.put o.dst undef) w) :
  wpOp P ops Ld i (fun a' w'=>(i≠m->S w')/\fX P md ops Ld S m f (listed.setIfInBounds i M) a' w') a w:=
 wpOp_step ho (fun Le hK=>h Le (fE fun a w hS hT=>hK a w ⟨fun _=>hS,hT⟩))
theorem fX.jj (hr:MK md ops listed = [i])(ho:ops[i]?=H o)
  (h:∀ Le:Act->N->Prop,Hid (∀ a w,S w->fX P md ops Ld S m f (listed.setIfInBounds i M) a w->Le a w)->if MI o (NA ops a.tmps)=M then Oper.wp P o a w Le Ld else Le (a.put o.dst undef) w):fX P md ops Ld S m (f+1) listed a w:=
 ⟨fun h0=>absurd (hr.symm.trans h0) (by simp),fun j hj=>by
  obtain rfl:j=i:=by simpa[hr] using hj
  exact fX.ph ho h⟩
theorem fX.qG {o2:Oper} (hr:MK md ops listed = [i,j])(ho:ops[i]?=H o)(ho2:ops[j]?=H o2)
  (h:∀ Le:Act->N->Prop,Hid (∀ a w,S w->fX P md ops Ld S m f (listed.setIfInBounds i M) a w->Le a w)->if MI o (NA ops a.tmps)=M then Oper.wp P o a w Le Ld else Le (a.put o.dst undef) w)
  (h2:∀ Le:Act->N->Prop,Hid (∀ a w,S w->fX P md ops Ld S m f (listed.setIfInBounds j M) a w->Le a w)->if MI o2 (NA ops a.tmps)=M then Oper.wp P o2 a w Le Ld else Le (a.put o2.dst undef) w):fX P md ops Ld S m (f+1) listed a w:=
 ⟨fun h0=>absurd (hr.symm.trans h0) (by simp),fun k hk=>by
  have a0:k=i∨k=j:=by simpa[hr] using hk
  rcases a0 with rfl | rfl
  ·exact fX.ph ho h
  ·exact fX.ph ho2 h2⟩
end
structure J3 {α β:Type}(T:Ty α)(K8:Ty β)(e f:TypeId)(Y W:N)(va vb:LA)(xa:Q α)(xb:Q β)(Sa Sb:Q Nat)(go:Nat)(o:Obj):Prop where
 ha:Has (T.sl e) W [va] xa Sa
 hb:Has (K8.sl f) W [vb] xb Sb
 pM:∀ b∈Sa,b∉Sb
 la:∀ b∈Sa,Y.heap.size<=b
 lb:∀ b∈Sb,Y.heap.size<=b
 hg:fF Y W
 ho:W.heap[go]?=H o
 oe:go∉Sa
 tc:go∉Sb
section
variable {α β:Type} {T:Ty α} {K8:Ty β} {e f:TypeId} {Y W W':N} {va vb:LA} {xa:Q α} {xb:Q β} {Sa Sb:Q Nat} {go:Nat} {o:Obj}
theorem J3.fO (h:J3 T K8 e f Y W va vb xa xb Sa Sb go o)(hg:fF W W'):J3 T K8 e f Y W' va vb xa xb Sa Sb go o:=
 ⟨h.ha.fO hg,h.hb.fO hg,h.pM,h.la,h.lb,h.hg.trans hg,zj h.ho hg,h.oe,h.tc⟩
theorem J3.start (ho:Y.heap[go]?=H o):J3 T K8 e f Y Y (J V 0 0) (J V 0 0) [] [] [] [] go o:=
 ⟨Has.nil _ _ _,Has.nil _ _ _,by simp,by simp,by simp,fF.refl _,ho,by simp,by simp⟩
theorem J3.lz (h:J3 T K8 e f Y W va vb xa xb Sa Sb go o):J3 T K8 e f Y (W.alloc (C #[] e)) (J (H ⟨W.heap.size,0,V⟩) 0 0) vb [] xb [W.heap.size] Sb go o:=by
 have hl:=(blt h.ho)
 refine⟨Has.emp T (Lp _ _),h.hb.fO ((fF.refl _).alloc _),fun b hb hm=>?_,fun b hb=>?_,h.lb,h.hg.alloc _,zj h.ho ((fF.refl _).alloc _),?_,h.tc⟩
 ·have:=h.hb.lt b hm;simp at hb;omega
 ·have:=h.hg.size;simp at hb;omega
 ·simp;omega
theorem J3.pe (h:J3 T K8 e f Y W va vb xa xb Sa Sb go o):J3 T K8 e f Y (W.alloc (C #[] f)) va (J (H ⟨W.heap.size,0,V⟩) 0 0) xa [] Sa [W.heap.size] go o:=by
 have hl:=(blt h.ho)
 refine⟨h.ha.fO ((fF.refl _).alloc _),Has.emp K8 (Lp _ _),fun b hb hm=>?_,h.la,fun b hb=>?_,h.hg.alloc _,zj h.ho ((fF.refl _).alloc _),h.oe,?_⟩
 ·have:=h.ha.lt b hb;simp at hm;omega
 ·have:=h.hg.size;simp at hb;omega
 ·simp;omega
theorem J3.kN {cs:Array LA} {t:TypeId} (h:J3 T K8 e f Y W va vb xa xb Sa Sb go o):J3 T K8 e f Y (W.alloc (C cs t)) va vb xa xb Sa Sb W.heap.size (C cs t (0,0)):=by
 refine⟨h.ha.fO ((fF.refl _).alloc _),h.hb.fO ((fF.refl _).alloc _),h.pM,h.la,h.lb,h.hg.alloc _,Lp _ _,fun hm=>?_,fun hm=>?_⟩
 ·have:=h.ha.lt _ hm;omega
 ·have:=h.hb.lt _ hm;omega
theorem J3.nj {va':LA} {xa':Q α} {Sa':Q Nat} (h:J3 T K8 e f Y W va vb xa xb Sa Sb go o)(hon:fJ Sa W W')(hH:Has (T.sl e) W' [va'] xa' Sa')(hS:∀ b∈Sa',b∈Sa∨W.heap.size<=b):J3 T K8 e f Y W' va' vb xa' xb Sa' Sb go o:=by
 have hl:=(blt h.ho)
 refine⟨hH,h.hb.fU hon (fun b hb hm=>h.pM b hm hb),fun b hb hm=>?_,fun b hb=>?_,h.lb,hon.fO h.hg h.la,(hon.block go hl h.oe).trans h.ho,fun hm=>?_,h.tc⟩
 ·rcases hS b hb with h1 | h1
  ·exact h.pM b h1 hm
  ·have:=h.hb.lt b hm;omega
 ·rcases hS b hb with h1 | h1
  ·exact h.la b h1
  ·have:=h.hg.size;omega
 ·rcases hS go hm with h1 | h1
  ·exact h.oe h1
  ·omega
theorem J3.cell {p:Mh}{v:LA}(h:J3 T K8 e f Y W va vb xa xb Sa Sb go o)(hc:Y.cell? p=H v):W.cell? p=H v:=by
 obtain⟨os,d,hw⟩:=h.hg;rw[hw];exact zC hc os d
theorem J3.store {o':Obj} (h:J3 T K8 e f Y W va vb xa xb Sa Sb go o)(hon:fJ [go] W W')(ho':W'.heap[go]?=H o')(hgo:Y.heap.size<=go):J3 T K8 e f Y W' va vb xa xb Sa Sb go o':=
 ⟨h.ha.fU hon (fun b hb hm=>h.oe (by simp at hm;exact hm ▸ hb)),h.hb.fU hon (fun b hb hm=>h.tc (by simp at hm;exact hm ▸ hb)),h.pM,h.la,h.lb,hon.fO h.hg (fun b hb=>by simp at hb;omega),ho',h.oe,h.tc⟩
end
end Go.Proofs.YtiihkapmggfjkaaGreat
