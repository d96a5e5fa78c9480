/-
  PART.
-/
import Derived.Test.YtiihkapmggfjkaaGreatM1LawMakeDebug
import Derived.Test.YtiihkapmggfjkaaGreatM3LawMakeDebug
import Derived.Test.YtiihkapmggfjkaaGreatM4LawMakeDebug
set_option linter.unusedVariables false
set_option linter.unusedSimpArgs false
set_option maxRecDepth 100000
set_option maxHeartbeats 8000000
namespace Go.Proofs.YtiihkapmggfjkaaGreat
open Value renaming slice->J,int->F,bool->X,string->G
open IntKind renaming i64->I
open Option renaming none->V,some->H
open Bool renaming false->U,true->M
open Go renaming World->N,Value->LA,Calls->LR,Addr->Mh
open World renaming cell?->Lg
open RowKit renaming intOf->Ml
open _root_.Int renaming natCast_mul->Ni
open Tryz
open Go.RowKit
variable {A:K Mh}{B c n:Nat}{S:Q Nat}{e:TypeId}{k:Int}{u v:LA}{w:N}{x y:gZ}{xs:Q gZ}
theorem G7 (h0:fV x.Start)(h1:fV x.End)(h3:fV x.fK):jJ.O w [F I x.Start,F I x.End,X x.Frame,F I x.fK] x ([]):=by
 have h:jJ.O w [F I x.Start,F I x.End,X x.Frame,F I x.fK] x ([]++([]++([]++[]))):=⟨[F I x.Start],[F I x.End,X x.Frame,F I x.fK],[],([]++([]++[])),rfl,rfl,⟨rfl,h0.1,h0.2,rfl⟩,⟨[F I x.End],[X x.Frame,F I x.fK],[],([]++[]),rfl,rfl,⟨rfl,h1.1,h1.2,rfl⟩,⟨[X x.Frame],[F I x.fK],[],[],rfl,rfl,⟨rfl,rfl⟩,⟨rfl,h3.1,h3.2,rfl⟩⟩⟩⟩
 simpa using h
theorem Ix:x=y↔x.Start=y.Start/\x.End=y.End/\x.Frame=y.Frame/\x.fK=y.fK:=by
 cases x;cases y;simp
theorem zmX:LR prog 119 #[.agg #[F I x.Start,F I x.End,X x.Frame,F I x.fK],.agg #[F I y.Start,F I y.End,X y.Frame,F I y.fK]] w fun e w'=>e=.returned (X (decide (x=y)))/\fF w w':=by
 go_enter func119,ntmps119;go_wp2
 all_goals
  go_ret
  refine⟨zy ?_,gG⟩
  simp_all [Ix]
theorem AD (h:(jJ.sl e).R w B [J A n c] xs){k:Nat}(hk:k<xs.length) :
  ∃ g off x ,A=H ⟨g,off,V⟩/\g<B/\xs[k]?=H x/\Lg w ⟨g,off+k*4,V⟩=H (F I x.Start)/\Lg w ⟨g,off+k*4+1,V⟩=H (F I x.End)/\Lg w ⟨g,off+k*4+2,V⟩=H (X x.Frame)/\Lg w ⟨g,off+k*4+3,V⟩=H (F I x.fK)/\fV x.Start/\fV x.End/\fV x.fK:=by
 obtain⟨g,off,x,ec,h1,hB,h2,h3,h4⟩:=om h hk;obtain⟨rfl,hf⟩:=J5 h3;exact⟨g,off,x,h1,hB,h2,h4 0 _ rfl,h4 1 _ rfl,h4 2 _ rfl,h4 3 _ rfl,hf⟩
def pY (_:gZ)(k:Int):gZ:=⟨k,k+1,((k+1+1) % 3 == 0),k+1+1+1⟩
def OY (xs:Q gZ)(k:Int):Q gZ:=nq pY (fun _=>4) xs k
def pT (xs:Q gZ):Nat:=xs.length*4
theorem pP (xs:Q gZ)(k:Int):(OY xs k).length=xs.length:=ns _ _
theorem F3:(prog.info? 137).map (fun i=>(i.zero,i.size,i.bytes))=H (H (.agg #[F I 0,F I 0,X U,F I 0]),4,32):=by kernel_rfl
theorem qP:kK jJ:=uP _ (nO zP (nO zP (nO CT zP)))
theorem re:iI prog 27 137 jJ 32:=by
 obtain⟨i0,hi,a0,a1,a2⟩:=Nf F3;exact⟨underlying27,⟨i0,_,hi,a0,a1,a2,rfl⟩,by decide⟩
theorem zpI {ys:Q gZ} (hx:(jJ.sl 137).R w w.heap.size [v] xs)(hy:(jJ.sl 137).R w w.heap.size [u] ys) :
  LR prog 51 #[v,u] w fun e w'=>e=.returned (X (decide (xs=ys)))/\fF w w':=by
 obtain⟨A,c,rfl,h1,h2⟩:=jV hx;obtain⟨A',c',rfl,k1,k2⟩:=jV hy;by_cases hl:xs.length=ys.length
 ·have a7:((xs.length:Int) != (ys.length:Int))=U:=by simp[hl]
  have HL:=fE hl;clear hl;go_enter func51,ntmps51;go_wp2_with(fail);go_loopw [5] (fun i wr=>∃ k:Nat,k<=xs.length/\i=F I k/\Hid (fF w wr)/\Hid (xs.take k=ys.take k)) (fun i _=>xs.length-(Ml i).toNat)
  case atStart=>exact⟨0,Lv _,rfl,fF.refl _,fE (by simp)⟩
  case round=>
   obtain⟨k,hk,rfl,hG,HT⟩:=hrel;obtain⟨os,d,rfl⟩:=hG.out;clear hG;by_cases hlt:k<xs.length
   ·have a2:k<ys.length:=by rw[<-HL.out];exact hlt
    obtain⟨g,a1,x,rfl,af,a3,ag,ah,ai,aj,a9,aa,ab⟩:=AD hx hlt;obtain⟨g',a0,y,rfl,a6,a4,ak,al,am,an,ac,ad,ae⟩:=AD hy a2;have HX:=fE a3;have HY:=fE a4;clear a3 a4 hx hy;by_cases hxy:x=y
    ·subst hxy
     go_wp2_with(fail)
     go_region_held3 (fun w'=>Lg w' ⟨g,a1+k*4,V⟩=H (F I x.Start)/\Lg w' ⟨g,a1+k*4+1,V⟩=H (F I x.End)/\Lg w' ⟨g,a1+k*4+2,V⟩=H (X x.Frame)/\Lg w' ⟨g,a1+k*4+3,V⟩=H (F I x.fK)/\Lg w' ⟨g',a0+k*4,V⟩=H (F I x.Start)/\Lg w' ⟨g',a0+k*4+1,V⟩=H (F I x.End)/\Lg w' ⟨g',a0+k*4+2,V⟩=H (X x.Frame)/\Lg w' ⟨g',a0+k*4+3,V⟩=H (F I x.fK)) ((repeat' apply Ls) <;> (first | ((repeat (first | assumption | with_reducible refine zC ?_ _ _ | with_reducible refine zo ?_ _ | with_reducible refine zb ?_));done) | (simp[go_sem];done))) (first
      | (go_at_call 119;refine(zmX (x:=x) (y:=x)).mono ?_;rintro e w1 ⟨rfl,a8,d1,rfl⟩))
     go_wp2;go_roundw;exact⟨k+1,by omega,by go_num,fE gG,fE (by rw[lJ HX.out,lJ HY.out,HT.out])⟩;exact gL
    ·have a5:=fE (show decide (x=y)=U from by simp[hxy])
     go_wp2_with(fail)
     go_region_held3 (fun w'=>Lg w' ⟨g,a1+k*4,V⟩=H (F I x.Start)/\Lg w' ⟨g,a1+k*4+1,V⟩=H (F I x.End)/\Lg w' ⟨g,a1+k*4+2,V⟩=H (X x.Frame)/\Lg w' ⟨g,a1+k*4+3,V⟩=H (F I x.fK)/\Lg w' ⟨g',a0+k*4,V⟩=H (F I y.Start)/\Lg w' ⟨g',a0+k*4+1,V⟩=H (F I y.End)/\Lg w' ⟨g',a0+k*4+2,V⟩=H (X y.Frame)/\Lg w' ⟨g',a0+k*4+3,V⟩=H (F I y.fK)) ((repeat' apply Ls) <;> (first | ((repeat (first | assumption | with_reducible refine zC ?_ _ _ | with_reducible refine zo ?_ _ | with_reducible refine zb ?_));done) | (simp[go_sem];done))) (first
      | (go_at_call 119;refine(zmX (x:=x) (y:=y)).mono ?_;rw[a5.out];rintro e w1 ⟨rfl,a8,d1,rfl⟩))
     go_wp2;go_ret;refine⟨zy ?_,gG⟩;symm;simp only[Me];rintro rfl;exact hxy (M0 (HX.out.symm.trans HY.out))
   ·go_wp2
    go_ret;refine⟨zy ?_,gG⟩;have:k=xs.length:=by omega
    exact lG
 ·have a7:((xs.length:Int) != (ys.length:Int))=M:=by simp;omega
  go_enter func51,ntmps51;exact lH
theorem znA (hO:(jJ.sl 137).O w [J A n c] xs S)(hS:S.Nodup)(h0:0<k)(h1:k+pT xs<=1099511627776) :
  LR prog 59 #[J A n c,F I k] w fun e w'=>e=.returned (F I (k+pT xs))/\(jJ.sl 137).O w' [J A n c] (OY xs k) S/\fJ S w w':=by
 obtain⟨_,_,hx,h2,h3⟩:=jV (Ty.read _ hO);injection hx with hA hn hc
 subst hA hn hc;clear h3;unfold pT at h1 |-;go_enter func59,ntmps59;go_wp2_with(fail);go_loopw [1,5] (fun a i wr=>∃(j:Nat),j<=xs.length/\a=F I (k+j*4)/\i=F I j/\Hid ((jJ.sl 137).O wr [J A xs.length c] (m8 pY (fun _=>4) xs k j) S)/\Hid (fJ S w wr)) (fun _ i _=>xs.length-(Ml i).toNat)
 case atStart=>exact⟨0,Lv _,by simp,rfl,fE (by rw[tr];exact hO),fJ.refl _ _⟩
 case round=>
  obtain⟨j,hj,rfl,rfl,ho,hs⟩:=hrel;by_cases hlt:j<xs.length
  ·have a3:xs[j]?=H xs[j]:=Lo hlt
   obtain⟨g,ec,Sc,rfl,af,ah,ag,aa,a4,a1,a0,a2⟩:=OZ ho.out hS (tv a3 k);generalize hxe:xs[j]=x at a3 a4;clear hxe;obtain⟨rfl,rfl,_,_,_⟩:=En a4;have a6:=a0 0 _ rfl;have a7:=a0 1 _ rfl;have a8:=a0 2 _ rfl;have a9:=a0 3 _ rfl;simp only[Nat.add_zero,show jJ.size=4 from rfl] at a6 a7 a8 a9;have ab:=a1 (j*4);have ac:=a1 (j*4+1);have ad:=a1 (j*4+2);have ae:=a1 (j*4+3);have HX:=fE a3;have HS:=fE a2;clear a0 a2 a1 a3 hO a4;go_wp2_with(first | (go_at_call 55;refine(pt _ (by omega) (by omega) _).mono ?_;rintro e w1 ⟨rfl,os,d,rfl⟩));go_roundw
   case rel=>
    have h:=HS.out [F I (k+j*4),F I (k+j*4+1),X (((k+j*4+1+1) % 3 == 0)),F I (k+j*4+1+1+1)] (pY x (k+j*4)) (G7 (x:=pY x (k+j*4)) (show fV (k+j*4) from⟨by omega,by omega⟩) (show fV (k+j*4+1) from⟨by omega,by omega⟩) (show fV (k+j*4+1+1+1) from⟨by omega,by omega⟩));have e:=tw (mk:=pY) (cnt:=fun _=>4) HX.out k;rw[p9 4 (by omega),Ni] at e;rw[show pY x (k+j*4)=pY x (k+(j:Int)*((4:Nat):Int)) from rfl,e] at h;exact⟨j+1,by omega,by go_num,by go_num,fE h.1,fE (hs.out.trans h.2)⟩
   case measure=>exact gL
  ·go_wp2
   have:j=xs.length:=by omega
   subst this;have a5:=ho.out;rw[tu] at a5;go_ret;exact⟨rfl,a5,hs.out⟩
theorem znd (hx:(jJ.sl 137).R w w.heap.size [v] (OY xs k))(h0:0<k)(h1:k+pT xs<=1099511627776) :
  LR prog 63 #[v,F I k] w fun e w'=>e=.returned (F I (k+pT xs))/\fF w w':=by
 obtain⟨A,c,rfl,h2,h3⟩:=jV hx;have a0:(OY xs k).length=xs.length:=ns _ _;rw[a0] at h2 hx |-;have HL:=fE a0;clear a0;unfold pT at h1 |-;go_enter func63,ntmps63;go_wp2_with(fail);go_loopw [1,5] (fun a i wr=>∃(j:Nat),j<=xs.length/\a=F I (k+j*4)/\i=F I j/\Hid (fF w wr)) (fun _ i _=>xs.length-(Ml i).toNat)
 case atStart=>exact⟨0,Lv _,by simp,rfl,fF.refl _⟩
 case round=>
  obtain⟨j,hj,rfl,rfl,hG⟩:=hrel;obtain⟨os,d,rfl⟩:=hG.out;clear hG;by_cases hlt:j<xs.length
  ·obtain⟨g,ab,x,rfl,aa,a1,a2,a3,a4,a5,a7,a8,a9⟩:=AD hx (k:=j) (by rw[HL.out];exact hlt)
   have a6:x=pY xs[j] (k+j*4):=by
    have:=OX (mk:=pY) (cnt:=fun _=>4) (Lo hlt) k;rw[p9 4 (by omega),Ni] at this;exact M0 (a1.symm.trans this)
   clear a1 hx;subst a6;simp only[pY] at a2 a3 a4 a5;go_wp2_with(fail);go_roundw;exact⟨j+1,by omega,by go_num,by go_num,fE gG⟩;exact gL
  ·go_wp2
   have:j=xs.length:=by omega
   subst this;go_ret;exact⟨kk (by push_cast;rfl),gG⟩
theorem Gs {x:gJ} (h0:fV x.Start)(h1:fV x.End)(h2:fV x.Level)(h3:fV x.fN)(h4:x.Name.size<=9223372036854775807):jH.O w [F I x.Start,F I x.End,F I x.Level,F I x.fN,G x.Name] x ([]):=by
 have h:jH.O w [F I x.Start,F I x.End,F I x.Level,F I x.fN,G x.Name] x ([]++([]++([]++([]++[])))):=⟨[F I x.Start],[F I x.End,F I x.Level,F I x.fN,G x.Name],[],([]++([]++([]++[]))),rfl,rfl,⟨rfl,h0.1,h0.2,rfl⟩,⟨[F I x.End],[F I x.Level,F I x.fN,G x.Name],[],([]++([]++[])),rfl,rfl,⟨rfl,h1.1,h1.2,rfl⟩,⟨[F I x.Level],[F I x.fN,G x.Name],[],([]++[]),rfl,rfl,⟨rfl,h2.1,h2.2,rfl⟩,⟨[F I x.fN],[G x.Name],[],[],rfl,rfl,⟨rfl,h3.1,h3.2,rfl⟩,⟨rfl,h4,rfl⟩⟩⟩⟩⟩
 simpa using h
theorem Hk {x y:gJ}:x=y↔x.Start=y.Start/\x.End=y.End/\x.Level=y.Level/\x.fN=y.fN/\x.Name=y.Name:=by
 cases x;cases y;simp
theorem zjC {x y:gJ}:LR prog 121 #[.agg #[F I x.Start,F I x.End,F I x.Level,F I x.fN,G x.Name],.agg #[F I y.Start,F I y.End,F I y.Level,F I y.fN,G y.Name]] w fun e w'=>e=.returned (X (decide (x=y)))/\fF w w':=by
 go_enter func121,ntmps121;go_wp2
 all_goals
  go_ret
  refine⟨zy ?_,gG⟩
  simp_all [Hk,tg]
theorem ze {xs:Q gJ} (h:(jH.sl e).R w B [J A n c] xs){k:Nat}(hk:k<xs.length) :
  ∃ g off x ,A=H ⟨g,off,V⟩/\g<B/\xs[k]?=H x/\Lg w ⟨g,off+k*5,V⟩=H (F I x.Start)/\Lg w ⟨g,off+k*5+1,V⟩=H (F I x.End)/\Lg w ⟨g,off+k*5+2,V⟩=H (F I x.Level)/\Lg w ⟨g,off+k*5+3,V⟩=H (F I x.fN)/\Lg w ⟨g,off+k*5+4,V⟩=H (G x.Name)/\fV x.Start/\fV x.End/\fV x.Level/\fV x.fN/\x.Name.size<=9223372036854775807:=by
 obtain⟨g,off,x,ec,h1,hB,h2,h3,h4⟩:=om h hk;obtain⟨rfl,hf⟩:=IY h3;exact⟨g,off,x,h1,hB,h2,h4 0 _ rfl,h4 1 _ rfl,h4 2 _ rfl,h4 3 _ rfl,h4 4 _ rfl,hf⟩
def pU (_:gJ)(k:Int):gJ:=⟨k,k+1,k+1+1,k+1+1+1,lr (k+1+1+1+1)⟩
def uT (xs:Q gJ)(k:Int):Q gJ:=nq pU (fun _=>5) xs k
def qM (xs:Q gJ):Nat:=xs.length*5
theorem pN (xs:Q gJ)(k:Int):(uT xs k).length=xs.length:=ns _ _
theorem Fy:(prog.info? 143).map (fun i=>(i.zero,i.size,i.bytes))=H (H (.agg #[F I 0,F I 0,F I 0,F I 0,G ⟨#[]⟩]),5,48):=by kernel_rfl
theorem Ba:kK jH:=uP _ (nO zP (nO zP (nO zP (nO zP qp))))
theorem BA:iI prog 29 143 jH 48:=by
 obtain⟨i0,hi,a0,a1,a2⟩:=Nf Fy;exact⟨underlying29,⟨i0,_,hi,a0,a1,a2,rfl⟩,by decide⟩
theorem zmV {xs ys:Q gJ} (hx:(jH.sl 143).R w w.heap.size [v] xs)(hy:(jH.sl 143).R w w.heap.size [u] ys) :
  LR prog 53 #[v,u] w fun e w'=>e=.returned (X (decide (xs=ys)))/\fF w w':=by
 obtain⟨A,c,rfl,h1,h2⟩:=jV hx;obtain⟨A',c',rfl,k1,k2⟩:=jV hy;by_cases hl:xs.length=ys.length
 ·have a7:((xs.length:Int) != (ys.length:Int))=U:=by simp[hl]
  have HL:=fE hl;clear hl;go_enter func53,ntmps53;go_wp2_with(fail);go_loopw [5] (fun i wr=>∃ k:Nat,k<=xs.length/\i=F I k/\Hid (fF w wr)/\Hid (xs.take k=ys.take k)) (fun i _=>xs.length-(Ml i).toNat)
  case atStart=>exact⟨0,Lv _,rfl,fF.refl _,fE (by simp)⟩
  case round=>
   obtain⟨k,hk,rfl,hG,HT⟩:=hrel;obtain⟨os,d,rfl⟩:=hG.out;clear hG;by_cases hlt:k<xs.length
   ·have a2:k<ys.length:=by rw[<-HL.out];exact hlt
    obtain⟨g,a1,x,rfl,aj,a3,ak,al,am,an,ao,a9,aa,ab,ac,ad⟩:=ze hx hlt;obtain⟨g',a0,y,rfl,a6,a4,ap,aq,ar,au,av,ae,af,ag,ah,ai⟩:=ze hy a2;have HX:=fE a3;have HY:=fE a4;clear a3 a4 hx hy;by_cases hxy:x=y
    ·subst hxy
     go_wp2_with(fail)
     go_region_held3 (fun w'=>Lg w' ⟨g,a1+k*5,V⟩=H (F I x.Start)/\Lg w' ⟨g,a1+k*5+1,V⟩=H (F I x.End)/\Lg w' ⟨g,a1+k*5+2,V⟩=H (F I x.Level)/\Lg w' ⟨g,a1+k*5+3,V⟩=H (F I x.fN)/\Lg w' ⟨g,a1+k*5+4,V⟩=H (G x.Name)/\Lg w' ⟨g',a0+k*5,V⟩=H (F I x.Start)/\Lg w' ⟨g',a0+k*5+1,V⟩=H (F I x.End)/\Lg w' ⟨g',a0+k*5+2,V⟩=H (F I x.Level)/\Lg w' ⟨g',a0+k*5+3,V⟩=H (F I x.fN)/\Lg w' ⟨g',a0+k*5+4,V⟩=H (G x.Name)) ((repeat' apply Ls) <;> (first | ((repeat (first | assumption | with_reducible refine zC ?_ _ _ | with_reducible refine zo ?_ _ | with_reducible refine zb ?_));done) | (simp[go_sem];done))) (first
      | (go_at_call 121;refine(zjC (x:=x) (y:=x)).mono ?_;rintro e w1 ⟨rfl,a8,d1,rfl⟩))
     go_wp2;go_roundw;exact⟨k+1,by omega,by go_num,fE gG,fE (by rw[lJ HX.out,lJ HY.out,HT.out])⟩;exact gL
    ·have a5:=fE (show decide (x=y)=U from by simp[hxy])
     go_wp2_with(fail)
     go_region_held3 (fun w'=>Lg w' ⟨g,a1+k*5,V⟩=H (F I x.Start)/\Lg w' ⟨g,a1+k*5+1,V⟩=H (F I x.End)/\Lg w' ⟨g,a1+k*5+2,V⟩=H (F I x.Level)/\Lg w' ⟨g,a1+k*5+3,V⟩=H (F I x.fN)/\Lg w' ⟨g,a1+k*5+4,V⟩=H (G x.Name)/\Lg w' ⟨g',a0+k*5,V⟩=H (F I y.Start)/\Lg w' ⟨g',a0+k*5+1,V⟩=H (F I y.End)/\Lg w' ⟨g',a0+k*5+2,V⟩=H (F I y.Level)/\Lg w' ⟨g',a0+k*5+3,V⟩=H (F I y.fN)/\Lg w' ⟨g',a0+k*5+4,V⟩=H (G y.Name)) ((repeat' apply Ls) <;> (first | ((repeat (first | assumption | with_reducible refine zC ?_ _ _ | with_reducible refine zo ?_ _ | with_reducible refine zb ?_));done) | (simp[go_sem];done))) (first
      | (go_at_call 121;refine(zjC (x:=x) (y:=y)).mono ?_;rw[a5.out];rintro e w1 ⟨rfl,a8,d1,rfl⟩))
     go_wp2;go_ret;refine⟨zy ?_,gG⟩;symm;simp only[Me];rintro rfl;exact hxy (M0 (HX.out.symm.trans HY.out))
   ·go_wp2
    go_ret;refine⟨zy ?_,gG⟩;have:k=xs.length:=by omega
    exact lG
 ·have a7:((xs.length:Int) != (ys.length:Int))=M:=by simp;omega
  go_enter func53,ntmps53;exact lH
theorem zkV {xs:Q gJ} (hO:(jH.sl 143).O w [J A n c] xs S)(hS:S.Nodup)(h0:0<k)(h1:k+qM xs<=1099511627776) :
  LR prog 61 #[J A n c,F I k] w fun e w'=>e=.returned (F I (k+qM xs))/\(jH.sl 143).O w' [J A n c] (uT xs k) S/\fJ S w w':=by
 obtain⟨_,_,hx,h2,h3⟩:=jV (Ty.read _ hO);injection hx with hA hn hc
 subst hA hn hc;clear h3;unfold qM at h1 |-;go_enter func61,ntmps61;go_wp2_with(fail);go_loopw [1,5] (fun a i wr=>∃(j:Nat),j<=xs.length/\a=F I (k+j*5)/\i=F I j/\Hid ((jH.sl 143).O wr [J A xs.length c] (m8 pU (fun _=>5) xs k j) S)/\Hid (fJ S w wr)) (fun _ i _=>xs.length-(Ml i).toNat)
 case atStart=>exact⟨0,Lv _,by simp,rfl,fE (by rw[tr];exact hO),fJ.refl _ _⟩
 case round=>
  obtain⟨j,hj,rfl,rfl,ho,hs⟩:=hrel;by_cases hlt:j<xs.length
  ·have a3:xs[j]?=H xs[j]:=Lo hlt
   obtain⟨g,ec,Sc,rfl,ah,aj,ai,ab,a4,a1,a0,a2⟩:=OZ ho.out hS (tv a3 k);generalize hxe:xs[j]=x at a3 a4;clear hxe;obtain⟨rfl,rfl,_,_,_,_,_⟩:=IX a4;have a6:=a0 0 _ rfl;have a7:=a0 1 _ rfl;have a8:=a0 2 _ rfl;have a9:=a0 3 _ rfl;have aa:=a0 4 _ rfl;simp only[Nat.add_zero,show jH.size=5 from rfl] at a6 a7 a8 a9 aa;have ac:=a1 (j*5);have ad:=a1 (j*5+1);have ae:=a1 (j*5+2);have af:=a1 (j*5+3);have ag:=a1 (j*5+4);have HX:=fE a3;have HS:=fE a2;clear a0 a2 a1 a3 hO a4;go_wp2_with(first | (go_at_call 55;refine(pt _ (by omega) (by omega) _).mono ?_;rintro e w1 ⟨rfl,os,d,rfl⟩));go_roundw
   case rel=>
    have h:=HS.out [F I (k+j*5),F I (k+j*5+1),F I (k+j*5+1+1),F I (k+j*5+1+1+1),G (lr (k+j*5+1+1+1+1))] (pU x (k+j*5)) (Gs (x:=pU x (k+j*5)) (show fV (k+j*5) from⟨by omega,by omega⟩) (show fV (k+j*5+1) from⟨by omega,by omega⟩) (show fV (k+j*5+1+1) from⟨by omega,by omega⟩) (show fV (k+j*5+1+1+1) from⟨by omega,by omega⟩) (uD _ (by omega) (by omega)));have e:=tw (mk:=pU) (cnt:=fun _=>5) HX.out k;rw[p9 5 (by omega),Ni] at e;rw[show pU x (k+j*5)=pU x (k+(j:Int)*((5:Nat):Int)) from rfl,e] at h;exact⟨j+1,by omega,by go_num,by go_num,fE (Ty.jl _ h.1 (fF.of _ _ _)),fE ((hs.out.trans h.2).trans ((fF.of _ _ _).only _))⟩
   case measure=>exact gL
  ·go_wp2
   have:j=xs.length:=by omega
   subst this;have a5:=ho.out;rw[tu] at a5;go_ret;exact⟨rfl,a5,hs.out⟩
theorem zkK {xs:Q gJ} (hx:(jH.sl 143).R w w.heap.size [v] (uT xs k))(h0:0<k)(h1:k+qM xs<=1099511627776) :
  LR prog 65 #[v,F I k] w fun e w'=>e=.returned (F I (k+qM xs))/\fF w w':=by
 obtain⟨A,c,rfl,h2,h3⟩:=jV hx;have a0:(uT xs k).length=xs.length:=ns _ _;rw[a0] at h2 hx |-;have HL:=fE a0;clear a0;unfold qM at h1 |-;go_enter func65,ntmps65;go_wp2_with(fail);go_loopw [1,5] (fun a i wr=>∃(j:Nat),j<=xs.length/\a=F I (k+j*5)/\i=F I j/\Hid (fF w wr)) (fun _ i _=>xs.length-(Ml i).toNat)
 case atStart=>exact⟨0,Lv _,by simp,rfl,fF.refl _⟩
 case round=>
  obtain⟨j,hj,rfl,rfl,hG⟩:=hrel;obtain⟨os,d,rfl⟩:=hG.out;clear hG;by_cases hlt:j<xs.length
  ·obtain⟨g,a8,x,rfl,ae,a1,a2,a3,a4,a5,a6,a9,aa,ab,ac,ad⟩:=ze hx (k:=j) (by rw[HL.out];exact hlt)
   have a7:x=pU xs[j] (k+j*5):=by
    have:=OX (mk:=pU) (cnt:=fun _=>5) (Lo hlt) k;rw[p9 5 (by omega),Ni] at this;exact M0 (a1.symm.trans this)
   clear a1 hx;subst a7;simp only[pU] at a2 a3 a4 a5 a6;go_wp2_with(fail)
   go_region_held3 (fun w'=>Lg w' ⟨g,a8+j*5+4,V⟩=H (G (lr (k+j*5+1+1+1+1)))) ((repeat' apply Ls) <;> (first | ((repeat (first | assumption | with_reducible refine zC ?_ _ _ | with_reducible refine zo ?_ _ | with_reducible refine zb ?_));done) | (simp[go_sem];done))) (first
    | (go_at_call 55;refine(pt _ (by omega) (by omega) _).mono ?_;rintro e w1 ⟨rfl,af,d1,rfl⟩))
   go_wp2_with(fail);go_roundw;exact⟨j+1,by omega,by go_num,by go_num,fE gG⟩;exact gL
  ·go_wp2
   have:j=xs.length:=by omega
   subst this;go_ret;exact⟨kk (by push_cast;rfl),gG⟩
end Go.Proofs.YtiihkapmggfjkaaGreat
