/-
  PART.
-/
import Derived.Test.YtiihkapmggfjkaaGreatM23LawMakeDebug
set_option linter.unusedVariables false
set_option linter.unusedSimpArgs false
set_option maxRecDepth 100000
set_option maxHeartbeats 8000000
namespace Go.Proofs.YtiihkapmggfjkaaGreat
open Value renaming slice->J,int->F,string->G
open IntKind renaming i64->I
open Option renaming none->V,some->H
open Bool renaming false->U,true->M
open Go renaming World->N,results->Ly,Calls->LR,Addr->Mh
open _root_.Int renaming toNat_natCast->Lw
open RowKit renaming intOf->Ml
open List renaming nil_append->Mw
open Tryz
open Go.RowKit
variable {A:K Mh}{c:Nat}{k:Int}{w:N}{xs:Q fG}
def D5 (xs:Q D)(w:N)(r:Ending)(w':N):Prop:=∃ A c S,r=.returned (J A xs.length c)/\Has (iH.sl 9) w' [J A xs.length c] xs S/\(∀ b∈S,w.heap.size<=b)/\fF w w'
theorem uF {i e:Nat} {x:fG} (h:xs[i]?=H x)(hl:i<e)(acc:Q D):ma (xs.drop i) (e-i) acc=ma (xs.drop (i+1)) (e-(i+1)) (oz acc x):=by
 obtain⟨h1,rfl⟩:=Lh.1 h;rw[LI h1,show e-i=(e-(i+1))+1 from by omega];rfl
theorem rK {g:Prop} (f:g:=by
  go_roundw
  case measure=>exact gL
  case rel=>
   have hwr:=hG.out.size
   have hw2:=hg2.size
   refine⟨i+1,A8,c8,S8,acc++[x.Name],by simp,by go_num,by omega,by omega,by simp;omega,fE (hon.fO (hG.out.trans (fF.trans (b:=_) gF (hg2.trans gF))) hS.out),fE (by rw[Lj];exact hH8),fE (fun b hb=>?_),HF⟩
   rcases hS8 b hb with h | h
   ·exact hS.out b h
   ·(try simp at h);(try simp at hw2);omega):g:=f
theorem rW {g:Prop} (f:g:=by
  have HF:Hid (ma (xs.drop (i+1)) (e-(i+1)) acc=zq xs a):=fE (by rw[<-hE.out,uF HX.out (show i<e from hlt),oz,Lt (fun h=>h1 h.1)])
  clear h1
  go_wp2_with(fail)
  go_roundw
  exact⟨i+1,A5,c5,S,acc,rfl,by go_num,by omega,by omega,by omega,fE (hG.out.trans gF),fE (hH.out.fO gF),hS,HF⟩
  exact gL):g:=f
theorem sj {g:Prop} (f:g:=by
  go_roundw
  exact⟨i+1,A5,c5,S,acc,rfl,by go_num,by omega,by omega,by omega,fE (hG.out.trans (fF.trans (b:=_) gF (hg2.trans gF))),fE (hH.out.fO (fF.trans (b:=_) gF (hg2.trans gF))),hS,HF⟩
  exact gL):g:=f
theorem zg8 (hx:(zM.sl 87).R w w.heap.size [J A xs.length c] xs)(hl:xs.length<=1099511627776)(hs:∀ x∈xs,x.fP.length<=1099511627776/\x.Expr.length<=1099511627776) :
  LR prog 176 #[J A xs.length c,F I k] w (D5 (zq xs k) w):=by
 rcases po xs k with he | ⟨a,e,rfl,he,a1⟩
 ·have HE:=fE he
  have HF:Hid (zq xs k = []):=fE (by unfold zq;rw[Lu (by omega)]);clear he;go_enter func176,ntmps176;go_wp2_with(first | (go_at_call 94;(with_reducible refine(zbn hx hl).mono ?_);rw[HE.out];rintro e1 v1 ⟨rfl,a0⟩))
  all_goals (refine Ln (v:=J (H ⟨v1.heap.size,0,V⟩) 0 0) (by simp[Ly,results176,go_sem]) rfl ?_;exact⟨H ⟨v1.heap.size,0,V⟩,0,[v1.heap.size],by rw[HF.out];rfl,by rw[HF.out];exact Has.emp iH (Lp _ _),fun b hb=>(by simp only[Lr] at hb;subst hb;exact a0.size),a0.trans gF⟩)
 have HE:=fE he;have ah:=a1.len;have ar:=a1.lt;obtain⟨g,ay,y,aj,an,ak,ao,rfl,a6,a2,y0,y1,y2,y3,b0,_,h2,_⟩:=jb hx (show a<xs.length by omega);have au:(a:Int)<(xs.length:Int):=by omega
 have av:¬ ((e:Int)<0):=by omega
 have hy:=(hs y (LP a2)).1;by_cases h0:y.Kind=0
 rotate_left
 ·have HF:Hid (zq xs a = []):=fE (by
   unfold zq;rw[he,Lt (by omega),Lw,a2];simp only
   rw[Lt h0])
  have a8:(y.Kind != 0)=M:=by rw[jZ,LK h0];rfl
  clear he a2 h0;go_enter func176,ntmps176;go_wp2_with(first | (go_at_call 94;(with_reducible refine(zbn hx hl).mono ?_);rw[HE.out];rintro e1 v1 ⟨rfl,a0⟩;have u0:=za a0 y0;have u2:=za a0 y2;have ad:=Li a6 a0.size))
  all_goals (refine Ln (v:=J (H ⟨v1.heap.size,0,V⟩) 0 0) (by simp[Ly,results176,go_sem]) rfl ?_;exact⟨H ⟨v1.heap.size,0,V⟩,0,[v1.heap.size],by rw[HF.out];rfl,by rw[HF.out];exact Has.emp iH (Lp _ _),fun b hb=>(by simp only[Lr] at hb;subst hb;exact a0.size),a0.trans gF⟩)
 have HS:Hid (ma (xs.drop a) (e-a) y.fP=zq xs a):=fE (by
  unfold zq;rw[he,Lt (by omega),Lw,Lw,a2];simp only
  rw[Lu h0])
 have a8:(y.Kind != 0)=U:=by rw[jZ,LN h0];rfl
 clear he a2 h0;go_enter func176,ntmps176;go_wp2_with(first | (go_at_call 94;(with_reducible refine(zbn hx hl).mono ?_);rw[HE.out];rintro e1 v1 ⟨rfl,a0⟩;have u0:=za a0 y0;have u2:=za a0 y2;have ad:=Li a6 a0.size) | (at_builtin;refine qH (L:=y.fP.length) rfl (.tmp 22) (.tmp 27) tJ qp (S:=[v1.heap.size]) (Has.emp iH (Lp _ _)) (Ty.up _ h2 (a0.trans gF)) rfl rfl rfl (Mb _).symm (by omega) (by omega) ?_;intro A7 c7 W7 S7 a4 a5 a9));rw[Mw] at a5;have ax:=a0.size;have ac:fF w W7:=a4.fO (a0.trans gF) (fun b hb=>by simp at hb;omega);go_loopw [6,7] (fun z j wr=>∃(i:Nat) (A5:K Mh) (c5:Nat) (S:Q Nat) (acc:Q D),z=J A5 acc.length c5/\j=F I i/\a<=i/\i<=e/\acc.length<=y.fP.length+(i-a)/\Hid (fF w wr)/\Hid (Has (iH.sl 9) wr [J A5 acc.length c5] acc S)/\Hid (∀ b∈S,w.heap.size<=b)/\Hid (ma (xs.drop i) (e-i) acc=zq xs a)) (fun _ j _=>e-(Ml j).toNat)
 case atStart=>exact⟨a,A7,c7,S7,y.fP,rfl,rfl,Lz _,by omega,by omega,fE (ac.trans gF),fE (a5.fO gF),fE (fun b hb=>by rcases a9 b hb with h | h;(simp at h;omega);(simp at h;omega)),HS⟩
 case round=>
  obtain⟨i,A5,c5,S,acc,rfl,rfl,ab,aw,aa,hG,hH,hS,hE⟩:=hrel;by_cases hlt:i<e
  ·obtain⟨g2,ai,x,al,ap,am,aq,a3,_,a7,x0,x1,_,_,_,b1,_,_⟩:=jb hx (show i<xs.length by omega)
   injection a3 with a3
   injection a3 with e1 e2
   subst e1 e2;have af:(i:Int)<(e:Int):=by omega
   have ae:(i:Int)<(xs.length:Int):=by omega
   have v0:=za hG.out x0;have v1:=za hG.out x1;have HX:=fE a7;clear a7 x0 x1;by_cases h1:x.Kind=1
   ·have q1:(x.Kind == 1)=M:=LM.2 h1
    rcases LH (jy acc x.Name) with hh | hh
    ·have ag:¬ (ja acc x.Name 0<0):=fun h=>by have h1:=ub x.Name acc;rw[show (acc.any fun y=>decide (y=x.Name))=M from hh] at h1;have h2:=Ng h1;omega
     have HF:Hid (ma (xs.drop (i+1)) (e-(i+1)) acc=zq xs a):=fE (by rw[<-hE.out,uF HX.out (show i<e from hlt),oz,Lt (fun h=>by rw[hh] at h;cases h.2)]);clear hh h1;go_wp2_with(first | (go_at_call 178;(with_reducible refine(zeG (xs:=acc) (hH.out.fO gF).read (by omega)).mono ?_);rintro e2 v2 ⟨rfl,hg2⟩;have t1:=za (fF.trans (b:=_) gF hg2) v1));exact sj
    ·have ag:ja acc x.Name 0<0:=by have h1:=ub x.Name acc;rw[show (acc.any fun y=>decide (y=x.Name))=U from hh] at h1;have h2:=Oo h1;omega
     have HF:Hid (ma (xs.drop (i+1)) (e-(i+1)) (acc++[x.Name])=zq xs a):=fE (by rw[<-hE.out,uF HX.out (show i<e from hlt),oz,Lu ⟨h1,hh⟩]);clear hh h1;go_wp2_with(first | (go_at_call 178;(with_reducible refine(zeG (xs:=acc) (hH.out.fO gF).read (by omega)).mono ?_);rintro e2 v2 ⟨rfl,hg2⟩;have t1:=za (fF.trans (b:=_) gF hg2) v1) | (refine zr (W1:=w) (L:=acc.length+1) rfl (.tmp 51) (.tmp 57) tJ qp (S:=S) (hH.out.fO (fF.trans (b:=_) gF (hg2.trans gF))) (ec:=[G x.Name]) (y:=x.Name) (B:=0) ⟨rfl,b1⟩ rfl rfl rfl (by intro j u hu;simpa[go_sem] using hu) rfl (by omega) (by omega) ?_;intro A8 c8 W8 S8 hon hH8 hS8));exact rK
   ·have q1:(x.Kind == 1)=U:=Lk.2 h1
    exact rW
  ·obtain rfl:i=e:=by omega
   have af:¬ ((i:Int)<(i:Int)):=by omega
   have HF:Hid (acc=zq xs a):=fE (by have h:=hE.out;rw[Mq] at h;rw[<-h];cases xs.drop i <;> rfl);go_wp2_with(fail);refine Ln (v:=J A5 acc.length c5) (by simp[Ly,results176,go_sem]) rfl ?_;rw[<-HF.out];exact⟨A5,c5,S,rfl,hH.out,hS.out,hG.out⟩
theorem zg7 (hx:(zM.sl 87).R w w.heap.size [J A xs.length c] xs)(hl:xs.length<=1099511627776)(hs:∀ x∈xs,x.fP.length<=1099511627776/\x.Expr.length<=1099511627776) :
  LR prog 190 #[J A xs.length c,F I k] w (D5 (zq xs k) w):=by
 rcases po xs k with he | ⟨a,e,rfl,he,a1⟩
 ·have HE:=fE he
  have HF:Hid (zq xs k = []):=fE (by unfold zq;rw[Lu (by omega)]);clear he;go_enter func190,ntmps190;go_wp2_with(first | (go_at_call 107;(with_reducible refine(za2 hx hl).mono ?_);rw[HE.out];rintro e1 v1 ⟨rfl,a0⟩))
  all_goals (refine Ln (v:=J V 0 0) (by simp[Ly,results190,go_sem]) rfl ?_;exact⟨V,0,[],by rw[HF.out];rfl,by rw[HF.out];exact Has.nil iH _ _,by simp,a0.trans gF⟩)
 have HE:=fE he;have ag:=a1.len;have aq:=a1.lt;obtain⟨g,ax,y,ai,am,aj,an,rfl,a6,a2,y0,y1,y2,y3,b0,_,h2,_⟩:=jb hx (show a<xs.length by omega);have ar:(a:Int)<(xs.length:Int):=by omega
 have au:¬ ((e:Int)<0):=by omega
 have hy:=(hs y (LP a2)).1;by_cases h0:y.Kind=0
 rotate_left
 ·have HF:Hid (zq xs a = []):=fE (by
   unfold zq;rw[he,Lt (by omega),Lw,a2];simp only
   rw[Lt h0])
  have a8:(y.Kind != 0)=M:=by rw[jZ,LK h0];rfl
  clear he a2 h0;go_enter func190,ntmps190;go_wp2_with(first | (go_at_call 107;(with_reducible refine(za2 hx hl).mono ?_);rw[HE.out];rintro e1 v1 ⟨rfl,a0⟩;have u0:=za a0 y0;have u2:=za a0 y2;have ad:=Li a6 a0.size))
  all_goals (refine Ln (v:=J V 0 0) (by simp[Ly,results190,go_sem]) rfl ?_;exact⟨V,0,[],by rw[HF.out];rfl,by rw[HF.out];exact Has.nil iH _ _,by simp,a0.trans gF⟩)
 have HS:Hid (ma (xs.drop a) (e-a) y.fP=zq xs a):=fE (by
  unfold zq;rw[he,Lt (by omega),Lw,Lw,a2];simp only
  rw[Lu h0])
 have a8:(y.Kind != 0)=U:=by rw[jZ,LN h0];rfl
 clear he a2 h0;go_enter func190,ntmps190;go_wp2_with(first | (go_at_call 107;(with_reducible refine(za2 hx hl).mono ?_);rw[HE.out];rintro e1 v1 ⟨rfl,a0⟩;have u0:=za a0 y0;have u2:=za a0 y2;have ad:=Li a6 a0.size) | (at_builtin;refine qH (L:=y.fP.length) rfl (.tmp 21) (.tmp 26) tJ qp (S:=[v1.heap.size]) (Has.emp iH (Lp _ _)) (Ty.up _ h2 (a0.trans gF)) rfl rfl rfl (Mb _).symm (by omega) (by omega) ?_;intro A7 c7 W7 S7 a4 a5 a9));rw[Mw] at a5;have aw:=a0.size;have ac:fF w W7:=a4.fO (a0.trans gF) (fun b hb=>by simp at hb;omega);go_loopw [6,7] (fun z j wr=>∃(i:Nat) (A5:K Mh) (c5:Nat) (S:Q Nat) (acc:Q D),z=J A5 acc.length c5/\j=F I i/\a<=i/\i<=e/\acc.length<=y.fP.length+(i-a)/\Hid (fF w wr)/\Hid (Has (iH.sl 9) wr [J A5 acc.length c5] acc S)/\Hid (∀ b∈S,w.heap.size<=b)/\Hid (ma (xs.drop i) (e-i) acc=zq xs a)) (fun _ j _=>e-(Ml j).toNat)
 case atStart=>exact⟨a,A7,c7,S7,y.fP,rfl,rfl,Lz _,by omega,by omega,fE (ac.trans gF),fE (a5.fO gF),fE (fun b hb=>by rcases a9 b hb with h | h;(simp at h;omega);(simp at h;omega)),HS⟩
 case round=>
  obtain⟨i,A5,c5,S,acc,rfl,rfl,ab,av,aa,hG,hH,hS,hE⟩:=hrel;by_cases hlt:i<e
  ·obtain⟨g2,ah,x,ak,ao,al,ap,a3,_,a7,x0,x1,_,_,_,b1,_,_⟩:=jb hx (show i<xs.length by omega)
   injection a3 with a3
   injection a3 with e1 e2
   subst e1 e2;have af:(i:Int)<(e:Int):=by omega
   have ae:(i:Int)<(xs.length:Int):=by omega
   have v0:=za hG.out x0;have v1:=za hG.out x1;have HX:=fE a7;clear a7 x0 x1;by_cases h1:x.Kind=1
   ·have q1:(x.Kind == 1)=M:=LM.2 h1
    rcases LH (jy acc x.Name) with hh | hh
    ·have HC:Hid ((acc.any fun y=>decide (y=x.Name))=M):=fE hh
     have HF:Hid (ma (xs.drop (i+1)) (e-(i+1)) acc=zq xs a):=fE (by rw[<-hE.out,uF HX.out (show i<e from hlt),oz,Lt (fun h=>by rw[hh] at h;cases h.2)]);clear hh h1;go_wp2_with(first | (go_at_call 223;(with_reducible refine(uG (xs:=acc) (hH.out.fO gF).read (by omega)).mono ?_);rw[HC.out];rintro e2 v2 ⟨rfl,hg2⟩;have t1:=za (fF.trans (b:=_) gF hg2) v1));exact sj
    ·have HC:Hid ((acc.any fun y=>decide (y=x.Name))=U):=fE hh
     have HF:Hid (ma (xs.drop (i+1)) (e-(i+1)) (acc++[x.Name])=zq xs a):=fE (by rw[<-hE.out,uF HX.out (show i<e from hlt),oz,Lu ⟨h1,hh⟩]);clear hh h1;go_wp2_with(first | (go_at_call 223;(with_reducible refine(uG (xs:=acc) (hH.out.fO gF).read (by omega)).mono ?_);rw[HC.out];rintro e2 v2 ⟨rfl,hg2⟩;have t1:=za (fF.trans (b:=_) gF hg2) v1) | (refine zr (W1:=w) (L:=acc.length+1) rfl (.tmp 50) (.tmp 56) tJ qp (S:=S) (hH.out.fO (fF.trans (b:=_) gF (hg2.trans gF))) (ec:=[G x.Name]) (y:=x.Name) (B:=0) ⟨rfl,b1⟩ rfl rfl rfl (by intro j u hu;simpa[go_sem] using hu) rfl (by omega) (by omega) ?_;intro A8 c8 W8 S8 hon hH8 hS8));exact rK
   ·have q1:(x.Kind == 1)=U:=Lk.2 h1
    exact rW
  ·obtain rfl:i=e:=by omega
   have af:¬ ((i:Int)<(i:Int)):=by omega
   have HF:Hid (acc=zq xs a):=fE (by have h:=hE.out;rw[Mq] at h;rw[<-h];cases xs.drop i <;> rfl);go_wp2_with(fail);refine Ln (v:=J A5 acc.length c5) (by simp[Ly,results190,go_sem]) rfl ?_;rw[<-HF.out];exact⟨A5,c5,S,rfl,hH.out,hS.out,hG.out⟩
end Go.Proofs.YtiihkapmggfjkaaGreat
