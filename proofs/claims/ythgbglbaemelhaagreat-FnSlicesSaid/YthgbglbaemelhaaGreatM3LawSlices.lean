/-
  PART.
-/
import Derived.Test.YthgbglbaemelhaaGreatM1LawSlices
import Derived.Deep.RegionLaw
import Derived.Deep.LoopGhost
set_option linter.unusedVariables false
set_option linter.unusedSimpArgs false
set_option maxRecDepth 100000
set_option maxHeartbeats 8000000
namespace Go.Proofs.YthgbglbaemelhaaGreat
open Value renaming slice->G,int->J
open IntKind renaming i64->C
open Option renaming none->D,some->Z
open Obj renaming cells->F
open Bool renaming false->I,true->M
open Go renaming World->U,Calls->Rh,Addr->Ri
open World renaming cell?->QL,frozen?->Rb
open Tryz
open Go.RowKit
variable {W:U}{a b p q:Value}{e:TypeId}{g j:Nat}
theorem kI (h:W.heap[g]?=Z (F #[a,b] e (0,0))) :
  QL W ⟨g,0,D⟩=Z a/\QL W ⟨g,1,D⟩=Z b/\Rb W ⟨g,0,D⟩=I/\Rb W ⟨g,1,D⟩=I/\g<W.heap.size:=by
 refine⟨?_,?_,by simp[Rb,h],by simp[Rb,h],(blt h)⟩
 all_goals
  rw[RV W g _ _ _ (0,0) h]
  rfl
theorem rD (h:W.heap[g]?=Z (F #[p,q] e (0,0)))(a b:Value) :
  ((W.setCell ⟨g,0,D⟩ a).setCell ⟨g,1,D⟩ b).heap[g]?=Z (F #[a,b] e (0,0))/\fw [g] W ((W.setCell ⟨g,0,D⟩ a).setCell ⟨g,1,D⟩ b):=
 ⟨zN (zN h 0 a) 1 b,((fw.refl _ _).setCell (p:=⟨g,0,D⟩) (by simp) a).setCell (p:=⟨g,1,D⟩) (by simp) b⟩
theorem zj {S Y:U} {k:Nat} {o:Obj} (h:S.heap[k]?=Z o)(hG:ft S Y):Y.heap[k]?=Z o:=
 (hG.block (blt h)).trans h
theorem IG {c d:Value} (h:W.heap[g]?=Z (F #[a,b,c,d] e (0,0))) :
  QL W ⟨g,0,D⟩=Z a/\QL W ⟨g,1,D⟩=Z b/\QL W ⟨g,2,D⟩=Z c/\QL W ⟨g,3,D⟩=Z d/\(∀ j,Rb W ⟨g,j,D⟩=I):=by
 refine⟨?_,?_,?_,?_,fun j=>by simp[Rb,h]⟩
 all_goals
  rw[RV W g _ _ _ (0,0) h]
  rfl
theorem wb {r s:Value} (h:W.heap[g]?=Z (F #[p,q,r,s] e (0,0)))(a b c d:Value) :
  ((((W.setCell ⟨g,0,D⟩ a).setCell ⟨g,1,D⟩ b).setCell ⟨g,2,D⟩ c).setCell ⟨g,3,D⟩ d).heap[g]?=Z (F #[a,b,c,d] e (0,0))/\fw [g] W ((((W.setCell ⟨g,0,D⟩ a).setCell ⟨g,1,D⟩ b).setCell ⟨g,2,D⟩ c).setCell ⟨g,3,D⟩ d):=
 ⟨zN (zN (zN (zN h 0 a) 1 b) 2 c) 3 d,((((fw.refl _ _).setCell (p:=⟨g,0,D⟩) (by simp) a).setCell (p:=⟨g,1,D⟩) (by simp) b).setCell (p:=⟨g,2,D⟩) (by simp) c).setCell (p:=⟨g,3,D⟩) (by simp) d⟩
theorem CC {α:Type}{T:Ty α}{w:U}(hf:∀{cs x S},T.O w cs x S->S = []):∀(xs:Q α)(ecs:Q Value)(S:Q Nat)(k:Nat),Rows T w ecs xs S->S = []/\Rows T w (ecs.take (k*T.size)) (xs.take k) []
 | [],_,_,k,h=>by
  obtain⟨rfl,rfl⟩:=h;exact⟨rfl,by simp[Rows]⟩
 | x::xs,_,_,0,h=>by
  obtain⟨c1,c2,S1,S2,rfl,rfl,h3,h4⟩:=h;obtain rfl:=hf h3;obtain⟨rfl,_⟩:=CC hf xs c2 S2 0 h4;exact⟨rfl,by simp[Rows]⟩
 | x::xs,_,_,k+1,h=>by
  obtain⟨c1,c2,S1,S2,rfl,rfl,h3,h4⟩:=h;obtain rfl:=hf h3;obtain⟨rfl,h5⟩:=CC hf xs c2 S2 k h4;refine⟨rfl,c1,c2.take (k*T.size),[],[],?_,rfl,h3,h5⟩;have hl:=T.ju h3;have e1:(k+1)*T.size-c1.length=k*T.size:=by rw[hl,UN,Nat.add_sub_cancel]
  rw[List.take_append,e1,R7 (by rw[hl,UN];omega)]
theorem Has.cut {α:Type} {T:Ty α} (hf:∀{cs x S},T.O W cs x S->S = []){e:TypeId}{A:X Ri}{n c k:Nat}{xs:Q α}{S:Q Nat}(h:Has (T.sl e) W [G A n c] xs S)(hk:k<=n):Has (T.sl e) W [G A k c] (xs.take k) S:=by
 obtain⟨⟨A',c',a1,S',h1,h2,h3,rfl⟩,hn⟩:=h;injection h1 with h1 _
 injection h1 with hA hn' hc
 subst hA hn' hc;have a0:(xs.take k).length=k:=by rw[Sj];omega
 obtain⟨g1,g2⟩:=h2;obtain⟨rfl,h4⟩:=CC hf xs a1 S' k h3;refine⟨⟨A,c,a1.take (k*T.size),[],by rw[a0],⟨by rw[h4.len],?_⟩,h4,rfl⟩,hn⟩;rw[a0];rcases g2 with⟨hv,h0⟩ | ⟨g,a3,a2,hv,hb,hg,hc,hm,hs,ht⟩
 ·injection hv with hA hn' hc
  subst hA hc;exact .inl ⟨by rw[show k=0 from by omega],by omega⟩
 ·injection hv with hA hn' hc'
  subst hA hc';refine .inr ⟨g,c,a2,rfl,hb,hg,by omega,hm,hs,?_⟩;rw[<-ht,List.take_take,UQ (Sk _ hk)]
theorem mg:gZ prog 26 3 zr 8:=by
 obtain⟨i0,hi,a0,a1,a2⟩:=SJ BC;exact⟨underlying26,⟨i0,_,hi,a0,a1,a2,rfl⟩,by decide⟩
theorem Mb {α:Type} {xs:Q α} {f:α->Bool} {x:α} (h:xs[j]?=Z x)(ha:(xs.take j).all f=M)(hf:f x=M):(xs.take (j+1)).all f=M:=by
 rw[vO h,TQ,ha];simp[hf]
theorem KT {α:Type} {xs:Q α} {f:α->Bool} {x:α} (h:xs[j]?=Z x)(hf:f x=I):xs.all f=I:=by
 rw[List.all_eq_false];exact⟨x,Q9 h,by simp[hf]⟩
def mb (n:Int):Int:=if fT n (-549755813888) 549755813887 then (if n<0 then -2*n-1 else 2*n) else -1
theorem DS (n:Int):decide (mb n<0) = !fT n (-549755813888) 549755813887:=by
 unfold mb;cases h:fT n (-549755813888) 549755813887
 ·simp
 ·rw[Q5 rfl];split <;> simp <;> omega
theorem uJ {g:Prop} (f:g:=by
  go_enter func90,ntmps90
  go_wp2_with(first
   | (go_at_call 43;(with_reducible refine(gY _ _ _ _).mono ?_);rintro e w1 ⟨rfl,rfl⟩))
  go_ret
  exact⟨nN HT.out.symm,rfl⟩):g:=f
theorem BY (n:Int)(w:U):Rh prog 90 #[J C n] w fun e w'=>e=.returned (J C (mb n))/\w=w':=by
 cases hb:fT n (-549755813888) 549755813887
 ·have HS:=fh (show mb n = -1 from by simp[mb,hb])
  go_enter func90,ntmps90
  go_wp2_with(first
   | (go_at_call 43;(with_reducible refine(gY _ _ _ _).mono ?_);rintro e w1 ⟨rfl,rfl⟩))
  go_ret;exact⟨nN HS.out.symm,rfl⟩
 ·obtain⟨a0,a1⟩:=zu.1 hb
  have HS:=fh (show mb n=(if n<0 then -2*n-1 else 2*n) from by simp[mb,hb]);by_cases hn:n<0
  ·have HT:=fh (HS.out.trans (Q5 hn))
   exact uJ
  ·have HT:=fh (HS.out.trans (QZ hn))
   exact uJ
end Go.Proofs.YthgbglbaemelhaaGreat
