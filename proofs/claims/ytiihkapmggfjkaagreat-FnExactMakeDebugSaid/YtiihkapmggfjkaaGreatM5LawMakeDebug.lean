/-
  PART.
-/
import Derived.Test.YtiihkapmggfjkaaGreatM1LawMakeDebug
import Derived.Test.YtiihkapmggfjkaaGreatM3LawMakeDebug
import Derived.Test.YtiihkapmggfjkaaGreatM4LawMakeDebug
set_option linter.unusedVariables false
set_option linter.unusedSimpArgs false
set_option maxRecDepth 100000
set_option maxHeartbeats 8000000
namespace Go.Proofs.YtiihkapmggfjkaaGreat
open Value renaming slice->J,int->F,bool->X,string->G
open IntKind renaming i64->I
open Option renaming none->V,some->H
open Bool renaming false->U,true->M
open Go renaming World->N,Value->LA,Calls->LR,Addr->Mh
open World renaming cell?->Lg
open RowKit renaming intOf->Ml
open _root_.Int renaming natCast_mul->Ni
open Tryz
open Go.RowKit
variable {A:K Mh}{B c n:Nat}{S:Q Nat}{cs:Q LA}{k:Int}{v:LA}{w:N}{x y:jc}{xs:Q jc}
structure mV where
 Code:Int
 Arg:Int
 deriving DecidableEq
def EO:Ty mV:=(zF.prod zF).via fun x=>(x.Code,x.Arg)
structure gu where
 Kind:Int
 gN:Int
 Name:D
 deriving DecidableEq
def iz:Ty gu:=(zF.prod (zF.prod iH)).via fun x=>(x.Kind,x.gN,x.Name)
theorem Ha:nV prog 205 iz:=yK _ (fun x=>⟨x.1,x.2.1,x.2.2⟩) (fun _=>rfl) (xB underlying205 (by kernel_rfl) (qR rfl (by kernel_rfl) (uW underlying3) (qR rfl (by kernel_rfl) (uW underlying3) (Au rfl (by kernel_rfl) (yx underlying9)))))
theorem Kz {x:gu} (h:iz.R w B cs x):cs = [F I x.Kind,F I x.gN,G x.Name]/\fV x.Kind/\fV x.gN/\x.Name.size<=9223372036854775807:=by
 obtain⟨_,_,rfl,⟨rfl,a0,a2⟩,⟨_,_,rfl,⟨rfl,a3,a4⟩,⟨rfl,a1⟩⟩⟩:=h;exact⟨rfl,⟨a0,a2⟩,⟨a3,a4⟩,a1⟩
theorem yy {x:gu} (h0:fV x.Kind)(h1:fV x.gN)(h2:x.Name.size<=9223372036854775807):iz.R w B [F I x.Kind,F I x.gN,G x.Name] x:=by
 exact⟨[F I x.Kind],[F I x.gN,G x.Name],rfl,⟨rfl,h0.1,h0.2⟩,⟨[F I x.gN],[G x.Name],rfl,⟨rfl,h1.1,h1.2⟩,⟨rfl,h2⟩⟩⟩
theorem Ky {x:gu} (h:iz.O w cs x S):cs = [F I x.Kind,F I x.gN,G x.Name]/\S = []/\fV x.Kind/\fV x.gN/\x.Name.size<=9223372036854775807:=by
 obtain⟨_,_,_,_,rfl,rfl,⟨rfl,a0,a2,rfl⟩,⟨_,_,_,_,rfl,rfl,⟨rfl,a3,a4,rfl⟩,⟨rfl,a1,rfl⟩⟩⟩:=h;exact⟨rfl,rfl,⟨a0,a2⟩,⟨a3,a4⟩,a1⟩
structure fG where
 Kind:Int
 Name:D
 fP:Q D
 Expr:Q gu
 deriving DecidableEq
def zM:Ty fG:=(zF.prod (iH.prod ((iH.sl 9).prod (iz.sl 159)))).via fun x=>(x.Kind,x.Name,x.fP,x.Expr)
theorem GL:nV prog 74 zM:=yK _ (fun x=>⟨x.1,x.2.1,x.2.2.1,x.2.2.2⟩) (fun _=>rfl) (xB underlying74 (by kernel_rfl) (qR rfl (by kernel_rfl) (uW underlying3) (qR rfl (by kernel_rfl) (yx underlying9) (qR rfl (by kernel_rfl) (zt underlying71 (by kernel_rfl) (by decide) (yx underlying9)) (Au rfl (by kernel_rfl) (zt underlying72 (by kernel_rfl) (by decide) Ha))))))
theorem J4 {x:fG} (h:zM.R w B cs x):∃ A0 c0 A1 c1,cs = [F I x.Kind,G x.Name,J A0 x.fP.length c0,J A1 x.Expr.length c1]/\fV x.Kind/\x.Name.size<=9223372036854775807/\(iH.sl 9).R w B [J A0 x.fP.length c0] x.fP/\(iz.sl 159).R w B [J A1 x.Expr.length c1] x.Expr:=by
 obtain⟨_,_,rfl,⟨rfl,a2,a4⟩,⟨_,_,rfl,⟨rfl,a3⟩,⟨_,_,rfl,a0,a1⟩⟩⟩:=h;obtain⟨A0,c0,rfl,_⟩:=id a0;obtain⟨A1,c1,rfl,_⟩:=id a1;exact⟨A0,c0,A1,c1,rfl,⟨a2,a4⟩,a3,a0,a1⟩
theorem Az {x:fG} (h:zM.O w cs x S):∃ A0 c0 S0 A1 c1 S1,cs = [F I x.Kind,G x.Name,J A0 x.fP.length c0,J A1 x.Expr.length c1]/\S=S0++S1/\fV x.Kind/\x.Name.size<=9223372036854775807/\(iH.sl 9).O w [J A0 x.fP.length c0] x.fP S0/\(iz.sl 159).O w [J A1 x.Expr.length c1] x.Expr S1:=by
 obtain⟨_,_,_,_,rfl,rfl,⟨rfl,a2,a4,rfl⟩,⟨_,_,_,_,rfl,rfl,⟨rfl,a3,rfl⟩,⟨_,_,_,_,rfl,rfl,a0,a1⟩⟩⟩:=h;obtain⟨A0,c0,_,_,rfl,_⟩:=id a0;obtain⟨A1,c1,_,_,rfl,_⟩:=id a1;exact⟨A0,c0,_,A1,c1,_,rfl,by simp,⟨a2,a4⟩,a3,a0,a1⟩
structure gC where
 Frames:Int
 Inline:Int
 Fold:Bool
 Split:Bool
 deriving DecidableEq
def uj:Ty gC:=(zF.prod (zF.prod (rr.prod rr))).via fun x=>(x.Frames,x.Inline,x.Fold,x.Split)
theorem Gr:nV prog 24 uj:=yK _ (fun x=>⟨x.1,x.2.1,x.2.2.1,x.2.2.2⟩) (fun _=>rfl) (xB underlying24 (by kernel_rfl) (qR rfl (by kernel_rfl) (uW underlying3) (qR rfl (by kernel_rfl) (uW underlying3) (qR rfl (by kernel_rfl) (CW underlying4) (Au rfl (by kernel_rfl) (CW underlying4))))))
theorem Jn {x:gC} (h:uj.R w B cs x):cs = [F I x.Frames,F I x.Inline,X x.Fold,X x.Split]/\fV x.Frames/\fV x.Inline:=by
 obtain⟨_,_,rfl,⟨rfl,a0,a2⟩,⟨_,_,rfl,⟨rfl,a1,a3⟩,⟨_,_,rfl,rfl,rfl⟩⟩⟩:=h;exact⟨rfl,⟨a0,a2⟩,⟨a1,a3⟩⟩
structure fS where
 Op:mV
 fN:Int
 Start:Bool
 fH:Q Int
 fK:Int
 fI:Bool
 deriving DecidableEq
def lL:Ty fS:=(EO.prod (zF.prod (rr.prod ((zF.sl 3).prod (zF.prod rr))))).via fun x=>(x.Op,x.fN,x.Start,x.fH,x.fK,x.fI)
theorem J2 {x:fS} (h:lL.R w B cs x):∃ A0 c0,cs = [F I x.Op.Code,F I x.Op.Arg,F I x.fN,X x.Start,J A0 x.fH.length c0,F I x.fK,X x.fI]/\fV x.Op.Code/\fV x.Op.Arg/\fV x.fN/\(zF.sl 3).R w B [J A0 x.fH.length c0] x.fH/\fV x.fK:=by
 obtain⟨_,_,rfl,⟨_,_,rfl,⟨rfl,a0,a1⟩,⟨rfl,a3,a4⟩⟩,⟨_,_,rfl,⟨rfl,a7,a8⟩,⟨_,_,rfl,rfl,⟨_,_,rfl,a2,⟨_,_,rfl,⟨rfl,a5,a6⟩,rfl⟩⟩⟩⟩⟩:=h;obtain⟨A0,c0,rfl,_⟩:=id a2;exact⟨A0,c0,rfl,⟨a0,a1⟩,⟨a3,a4⟩,⟨a7,a8⟩,a2,⟨a5,a6⟩⟩
theorem Aw {x:fS} (h:lL.O w cs x S):∃ A0 c0 S0,cs = [F I x.Op.Code,F I x.Op.Arg,F I x.fN,X x.Start,J A0 x.fH.length c0,F I x.fK,X x.fI]/\S=S0/\fV x.Op.Code/\fV x.Op.Arg/\fV x.fN/\(zF.sl 3).O w [J A0 x.fH.length c0] x.fH S0/\fV x.fK:=by
 obtain⟨_,_,_,_,rfl,rfl,⟨_,_,_,_,rfl,rfl,⟨rfl,a0,a1,rfl⟩,⟨rfl,a3,a4,rfl⟩⟩,⟨_,_,_,_,rfl,rfl,⟨rfl,a7,a8,rfl⟩,⟨_,_,_,_,rfl,rfl,⟨rfl,rfl⟩,⟨_,_,_,_,rfl,rfl,a2,⟨_,_,_,_,rfl,rfl,⟨rfl,a5,a6,rfl⟩,⟨rfl,rfl⟩⟩⟩⟩⟩⟩:=h;obtain⟨A0,c0,_,_,rfl,_⟩:=id a2;exact⟨A0,c0,_,rfl,by simp,⟨a0,a1⟩,⟨a3,a4⟩,⟨a7,a8⟩,a2,⟨a5,a6⟩⟩
theorem tm {x:fS} (A0:K Mh)(c0:Nat)(S0:Q Nat)(h0:fV x.Op.Code)(h1:fV x.Op.Arg)(h2:fV x.fN)(h3:(zF.sl 3).O w [J A0 x.fH.length c0] x.fH S0)(h4:fV x.fK):lL.O w [F I x.Op.Code,F I x.Op.Arg,F I x.fN,X x.Start,J A0 x.fH.length c0,F I x.fK,X x.fI] x (S0):=by
 have h:lL.O w [F I x.Op.Code,F I x.Op.Arg,F I x.fN,X x.Start,J A0 x.fH.length c0,F I x.fK,X x.fI] x (([]++[])++([]++([]++(S0++([]++[]))))):=⟨[F I x.Op.Code,F I x.Op.Arg],[F I x.fN,X x.Start,J A0 x.fH.length c0,F I x.fK,X x.fI],([]++[]),([]++([]++(S0++([]++[])))),rfl,rfl,⟨[F I x.Op.Code],[F I x.Op.Arg],[],[],rfl,rfl,⟨rfl,h0.1,h0.2,rfl⟩,⟨rfl,h1.1,h1.2,rfl⟩⟩,⟨[F I x.fN],[X x.Start,J A0 x.fH.length c0,F I x.fK,X x.fI],[],([]++(S0++([]++[]))),rfl,rfl,⟨rfl,h2.1,h2.2,rfl⟩,⟨[X x.Start],[J A0 x.fH.length c0,F I x.fK,X x.fI],[],(S0++([]++[])),rfl,rfl,⟨rfl,rfl⟩,⟨[J A0 x.fH.length c0],[F I x.fK,X x.fI],S0,([]++[]),rfl,rfl,h3,⟨[F I x.fK],[X x.fI],[],[],rfl,rfl,⟨rfl,h4.1,h4.2,rfl⟩,⟨rfl,rfl⟩⟩⟩⟩⟩⟩
 simpa using h
structure fQ where
 Offset:Int
 Item:fS
 deriving DecidableEq
def oH:Ty fQ:=(zF.prod lL).via fun x=>(x.Offset,x.Item)
theorem Jp {x:fQ} (h:oH.R w B cs x):∃ A0 c0,cs = [F I x.Offset,F I x.Item.Op.Code,F I x.Item.Op.Arg,F I x.Item.fN,X x.Item.Start,J A0 x.Item.fH.length c0,F I x.Item.fK,X x.Item.fI]/\fV x.Offset/\fV x.Item.Op.Code/\fV x.Item.Op.Arg/\fV x.Item.fN/\(zF.sl 3).R w B [J A0 x.Item.fH.length c0] x.Item.fH/\fV x.Item.fK:=by
 obtain⟨_,_,rfl,⟨rfl,a9,aa⟩,⟨_,_,rfl,⟨_,_,rfl,⟨rfl,a1,a2⟩,⟨rfl,a3,a4⟩⟩,⟨_,_,rfl,⟨rfl,a7,a8⟩,⟨_,_,rfl,rfl,⟨_,_,rfl,a0,⟨_,_,rfl,⟨rfl,a5,a6⟩,rfl⟩⟩⟩⟩⟩⟩:=h;obtain⟨A0,c0,rfl,_⟩:=id a0;exact⟨A0,c0,rfl,⟨a9,aa⟩,⟨a1,a2⟩,⟨a3,a4⟩,⟨a7,a8⟩,a0,⟨a5,a6⟩⟩
theorem G6 {x:fQ} (A0:K Mh)(c0:Nat)(h0:fV x.Offset)(h1:fV x.Item.Op.Code)(h2:fV x.Item.Op.Arg)(h3:fV x.Item.fN)(h4:(zF.sl 3).R w B [J A0 x.Item.fH.length c0] x.Item.fH)(h5:fV x.Item.fK):oH.R w B [F I x.Offset,F I x.Item.Op.Code,F I x.Item.Op.Arg,F I x.Item.fN,X x.Item.Start,J A0 x.Item.fH.length c0,F I x.Item.fK,X x.Item.fI] x:=by
 exact⟨[F I x.Offset],[F I x.Item.Op.Code,F I x.Item.Op.Arg,F I x.Item.fN,X x.Item.Start,J A0 x.Item.fH.length c0,F I x.Item.fK,X x.Item.fI],rfl,⟨rfl,h0.1,h0.2⟩,⟨[F I x.Item.Op.Code,F I x.Item.Op.Arg],[F I x.Item.fN,X x.Item.Start,J A0 x.Item.fH.length c0,F I x.Item.fK,X x.Item.fI],rfl,⟨[F I x.Item.Op.Code],[F I x.Item.Op.Arg],rfl,⟨rfl,h1.1,h1.2⟩,⟨rfl,h2.1,h2.2⟩⟩,⟨[F I x.Item.fN],[X x.Item.Start,J A0 x.Item.fH.length c0,F I x.Item.fK,X x.Item.fI],rfl,⟨rfl,h3.1,h3.2⟩,⟨[X x.Item.Start],[J A0 x.Item.fH.length c0,F I x.Item.fK,X x.Item.fI],rfl,rfl,⟨[J A0 x.Item.fH.length c0],[F I x.Item.fK,X x.Item.fI],rfl,h4,⟨[F I x.Item.fK],[X x.Item.fI],rfl,⟨rfl,h5.1,h5.2⟩,rfl⟩⟩⟩⟩⟩⟩
theorem IZ (h0:fV x.Offset)(h1:fV x.fN):kd.O w [F I x.Offset,F I x.fN,X x.Start] x ([]):=by
 have h:kd.O w [F I x.Offset,F I x.fN,X x.Start] x ([]++([]++[])):=⟨[F I x.Offset],[F I x.fN,X x.Start],[],([]++[]),rfl,rfl,⟨rfl,h0.1,h0.2,rfl⟩,⟨[F I x.fN],[X x.Start],[],[],rfl,rfl,⟨rfl,h1.1,h1.2,rfl⟩,⟨rfl,rfl⟩⟩⟩
 simpa using h
theorem Kg:x=y↔x.Offset=y.Offset/\x.fN=y.fN/\x.Start=y.Start:=by
 cases x;cases y;simp
theorem zpb:LR prog 120 #[.agg #[F I x.Offset,F I x.fN,X x.Start],.agg #[F I y.Offset,F I y.fN,X y.Start]] w fun e w'=>e=.returned (X (decide (x=y)))/\fF w w':=by
 go_enter func120,ntmps120;go_wp2
 all_goals
  go_ret
  refine⟨zy ?_,gG⟩
  simp_all [Kg]
theorem AK {e:TypeId} (h:(kd.sl e).R w B [J A n c] xs){k:Nat}(hk:k<xs.length) :
  ∃ g off x ,A=H ⟨g,off,V⟩/\g<B/\xs[k]?=H x/\Lg w ⟨g,off+k*3,V⟩=H (F I x.Offset)/\Lg w ⟨g,off+k*3+1,V⟩=H (F I x.fN)/\Lg w ⟨g,off+k*3+2,V⟩=H (X x.Start)/\fV x.Offset/\fV x.fN:=by
 obtain⟨g,off,x,ec,h1,hB,h2,h3,h4⟩:=om h hk;obtain⟨rfl,hf⟩:=Kx h3;exact⟨g,off,x,h1,hB,h2,h4 0 _ rfl,h4 1 _ rfl,h4 2 _ rfl,hf⟩
def pZ (_:jc)(k:Int):jc:=⟨k,k+1,((k+1+1) % 3 == 0)⟩
def vk (xs:Q jc)(k:Int):Q jc:=nq pZ (fun _=>3) xs k
def qo (xs:Q jc):Nat:=xs.length*3
theorem pS (xs:Q jc)(k:Int):(vk xs k).length=xs.length:=ns _ _
theorem GN:(prog.info? 139).map (fun i=>(i.zero,i.size,i.bytes))=H (H (.agg #[F I 0,F I 0,X U]),3,24):=by kernel_rfl
theorem uX:kK kd:=uP _ (nO zP (nO zP CT))
theorem vn:iI prog 28 139 kd 24:=by
 obtain⟨i0,hi,a0,a1,a2⟩:=Nf GN;exact⟨underlying28,⟨i0,_,hi,a0,a1,a2,rfl⟩,by decide⟩
theorem zq2 {ys:Q jc} {u:LA} (hx:(kd.sl 139).R w w.heap.size [v] xs)(hy:(kd.sl 139).R w w.heap.size [u] ys) :
  LR prog 52 #[v,u] w fun e w'=>e=.returned (X (decide (xs=ys)))/\fF w w':=by
 obtain⟨A,c,rfl,h1,h2⟩:=jV hx;obtain⟨A',c',rfl,k1,k2⟩:=jV hy;by_cases hl:xs.length=ys.length
 ·have a7:((xs.length:Int) != (ys.length:Int))=U:=by simp[hl]
  have HL:=fE hl;clear hl;go_enter func52,ntmps52;go_wp2_with(fail);go_loopw [5] (fun i wr=>∃ k:Nat,k<=xs.length/\i=F I k/\Hid (fF w wr)/\Hid (xs.take k=ys.take k)) (fun i _=>xs.length-(Ml i).toNat)
  case atStart=>exact⟨0,Lv _,rfl,fF.refl _,fE (by simp)⟩
  case round=>
   obtain⟨k,hk,rfl,hG,HT⟩:=hrel;obtain⟨os,d,rfl⟩:=hG.out;clear hG;by_cases hlt:k<xs.length
   ·have a2:k<ys.length:=by rw[<-HL.out];exact hlt
    obtain⟨g,a1,x,rfl,ad,a3,ae,af,ag,a9,aa⟩:=AK hx hlt;obtain⟨g',a0,y,rfl,a6,a4,ah,ai,aj,ab,ac⟩:=AK hy a2;have HX:=fE a3;have HY:=fE a4;clear a3 a4 hx hy;by_cases hxy:x=y
    ·subst hxy
     go_wp2_with(fail)
     go_region_held3 (fun w'=>Lg w' ⟨g,a1+k*3,V⟩=H (F I x.Offset)/\Lg w' ⟨g,a1+k*3+1,V⟩=H (F I x.fN)/\Lg w' ⟨g,a1+k*3+2,V⟩=H (X x.Start)/\Lg w' ⟨g',a0+k*3,V⟩=H (F I x.Offset)/\Lg w' ⟨g',a0+k*3+1,V⟩=H (F I x.fN)/\Lg w' ⟨g',a0+k*3+2,V⟩=H (X x.Start)) ((repeat' apply Ls) <;> (first | ((repeat (first | assumption | with_reducible refine zC ?_ _ _ | with_reducible refine zo ?_ _ | with_reducible refine zb ?_));done) | (simp[go_sem];done))) (first
      | (go_at_call 120;refine(zpb (x:=x) (y:=x)).mono ?_;rintro e w1 ⟨rfl,a8,d1,rfl⟩))
     go_wp2;go_roundw;exact⟨k+1,by omega,by go_num,fE gG,fE (by rw[lJ HX.out,lJ HY.out,HT.out])⟩;exact gL
    ·have a5:=fE (show decide (x=y)=U from by simp[hxy])
     go_wp2_with(fail)
     go_region_held3 (fun w'=>Lg w' ⟨g,a1+k*3,V⟩=H (F I x.Offset)/\Lg w' ⟨g,a1+k*3+1,V⟩=H (F I x.fN)/\Lg w' ⟨g,a1+k*3+2,V⟩=H (X x.Start)/\Lg w' ⟨g',a0+k*3,V⟩=H (F I y.Offset)/\Lg w' ⟨g',a0+k*3+1,V⟩=H (F I y.fN)/\Lg w' ⟨g',a0+k*3+2,V⟩=H (X y.Start)) ((repeat' apply Ls) <;> (first | ((repeat (first | assumption | with_reducible refine zC ?_ _ _ | with_reducible refine zo ?_ _ | with_reducible refine zb ?_));done) | (simp[go_sem];done))) (first
      | (go_at_call 120;refine(zpb (x:=x) (y:=y)).mono ?_;rw[a5.out];rintro e w1 ⟨rfl,a8,d1,rfl⟩))
     go_wp2;go_ret;refine⟨zy ?_,gG⟩;symm;simp only[Me];rintro rfl;exact hxy (M0 (HX.out.symm.trans HY.out))
   ·go_wp2
    go_ret;refine⟨zy ?_,gG⟩;have:k=xs.length:=by omega
    exact lG
 ·have a7:((xs.length:Int) != (ys.length:Int))=M:=by simp;omega
  go_enter func52,ntmps52;exact lH
theorem zoB (hO:(kd.sl 139).O w [J A n c] xs S)(hS:S.Nodup)(h0:0<k)(h1:k+qo xs<=1099511627776) :
  LR prog 60 #[J A n c,F I k] w fun e w'=>e=.returned (F I (k+qo xs))/\(kd.sl 139).O w' [J A n c] (vk xs k) S/\fJ S w w':=by
 obtain⟨_,_,hx,h2,h3⟩:=jV (Ty.read _ hO);injection hx with hA hn hc
 subst hA hn hc;clear h3;unfold qo at h1 |-;go_enter func60,ntmps60;go_wp2_with(fail);go_loopw [1,5] (fun a i wr=>∃(j:Nat),j<=xs.length/\a=F I (k+j*3)/\i=F I j/\Hid ((kd.sl 139).O wr [J A xs.length c] (m8 pZ (fun _=>3) xs k j) S)/\Hid (fJ S w wr)) (fun _ i _=>xs.length-(Ml i).toNat)
 case atStart=>exact⟨0,Lv _,by simp,rfl,fE (by rw[tr];exact hO),fJ.refl _ _⟩
 case round=>
  obtain⟨j,hj,rfl,rfl,ho,hs⟩:=hrel;by_cases hlt:j<xs.length
  ·have a3:xs[j]?=H xs[j]:=Lo hlt
   obtain⟨g,ec,Sc,rfl,ad,af,ae,a9,a4,a2,a0,a1⟩:=OZ ho.out hS (tv a3 k);generalize hxe:xs[j]=x at a3 a4;clear hxe;obtain⟨rfl,rfl,_,_⟩:=Kw a4;have a6:=a0 0 _ rfl;have a7:=a0 1 _ rfl;have a8:=a0 2 _ rfl;simp only[Nat.add_zero,show kd.size=3 from rfl] at a6 a7 a8;have aa:=a2 (j*3);have ab:=a2 (j*3+1);have ac:=a2 (j*3+2);have HX:=fE a3;have HS:=fE a1;clear a0 a1 a2 a3 hO a4;go_wp2_with(first | (go_at_call 55;refine(pt _ (by omega) (by omega) _).mono ?_;rintro e w1 ⟨rfl,os,d,rfl⟩));go_roundw
   case rel=>
    have h:=HS.out [F I (k+j*3),F I (k+j*3+1),X (((k+j*3+1+1) % 3 == 0))] (pZ x (k+j*3)) (IZ (x:=pZ x (k+j*3)) (show fV (k+j*3) from⟨by omega,by omega⟩) (show fV (k+j*3+1) from⟨by omega,by omega⟩));have e:=tw (mk:=pZ) (cnt:=fun _=>3) HX.out k;rw[p9 3 (by omega),Ni] at e;rw[show pZ x (k+j*3)=pZ x (k+(j:Int)*((3:Nat):Int)) from rfl,e] at h;exact⟨j+1,by omega,by go_num,by go_num,fE h.1,fE (hs.out.trans h.2)⟩
   case measure=>exact gL
  ·go_wp2
   have:j=xs.length:=by omega
   subst this;have a5:=ho.out;rw[tu] at a5;go_ret;exact⟨rfl,a5,hs.out⟩
theorem zow (hx:(kd.sl 139).R w w.heap.size [v] (vk xs k))(h0:0<k)(h1:k+qo xs<=1099511627776) :
  LR prog 64 #[v,F I k] w fun e w'=>e=.returned (F I (k+qo xs))/\fF w w':=by
 obtain⟨A,c,rfl,h2,h3⟩:=jV hx;have a0:(vk xs k).length=xs.length:=ns _ _;rw[a0] at h2 hx |-;have HL:=fE a0;clear a0;unfold qo at h1 |-;go_enter func64,ntmps64;go_wp2_with(fail);go_loopw [1,5] (fun a i wr=>∃(j:Nat),j<=xs.length/\a=F I (k+j*3)/\i=F I j/\Hid (fF w wr)) (fun _ i _=>xs.length-(Ml i).toNat)
 case atStart=>exact⟨0,Lv _,by simp,rfl,fF.refl _⟩
 case round=>
  obtain⟨j,hj,rfl,rfl,hG⟩:=hrel;obtain⟨os,d,rfl⟩:=hG.out;clear hG;by_cases hlt:j<xs.length
  ·obtain⟨g,a9,x,rfl,a8,a1,a2,a3,a4,a6,a7⟩:=AK hx (k:=j) (by rw[HL.out];exact hlt)
   have a5:x=pZ xs[j] (k+j*3):=by
    have:=OX (mk:=pZ) (cnt:=fun _=>3) (Lo hlt) k;rw[p9 3 (by omega),Ni] at this;exact M0 (a1.symm.trans this)
   clear a1 hx;subst a5;simp only[pZ] at a2 a3 a4;go_wp2_with(fail);go_roundw;exact⟨j+1,by omega,by go_num,by go_num,fE gG⟩;exact gL
  ·go_wp2
   have:j=xs.length:=by omega
   subst this;go_ret;exact⟨kk (by push_cast;rfl),gG⟩
end Go.Proofs.YtiihkapmggfjkaaGreat
