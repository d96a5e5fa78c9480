/-
  PART.
-/
import Derived.Test.YtiihkapmggfjkaaGreatM12LawMakeDebug
import Derived.Test.YtiihkapmggfjkaaGreatM16LawMakeDebug
set_option linter.unusedVariables false
set_option linter.unusedSimpArgs false
set_option maxRecDepth 100000
set_option maxHeartbeats 8000000
namespace Go.Proofs.YtiihkapmggfjkaaGreat
open Value renaming slice->J,int->F,bool->X,string->G
open IntKind renaming i64->I
open Option renaming none->V,some->H
open Obj renaming cells->C
open Bool renaming false->U,true->M
open Go renaming World->N,Value->LA,Calls->LR,Addr->Mh
open World renaming cell?->Lg
open RowKit renaming intOf->Ml,wrap64->NQ
open Tryz
open Go.RowKit
variable {A:K Mh}{S:Q Nat}{a b k:Int}{c n:Nat}{e:TypeId}{v:LA}{w:N}{xs:Q fG}
theorem nX {g:Prop} (f:g:=by
  go_enter func267,ntmps267
  go_wp2_with(go_at_call 271;first
   | (with_reducible refine(zcD (x:=a) ha).mono ?_;rw[HA.out];rintro e w1 ⟨rfl,rfl⟩)
   | (with_reducible refine(zcD (x:=b) hb).mono ?_;rw[HB.out];rintro e w1 ⟨rfl,rfl⟩))
  rw[HQ.out]
  go_ret
  exact⟨rfl,rfl⟩):g:=f
theorem sR {g:Prop} (f:g:=by
  have h1:(A*B).natAbs<=2147483648*2147483648:=by rw[Int.natAbs_mul];exact Nat.mul_le_mul (by omega) (by omega)
  omega):g:=f
theorem zqH (hk:2<=k/\k<=6)(ha:fV a)(hb:fV b):LR prog 267 #[F I k,F I a,F I b] w fun r w'=>r=.returned (F I (jh (k+3) a b))/\w'=w:=by
 obtain⟨A,hA⟩:∃ A,jP a=A:=⟨_,rfl⟩
 obtain⟨B,hB⟩:∃ B,jP b=B:=⟨_,rfl⟩
 have bA:=vo a;have bB:=vo b;rw[hA] at bA;rw[hB] at bB;have HA:=fE hA;have HB:=fE hB;have a0:k=2∨k=3∨k=4∨k=5∨k=6:=by omega
 have a2:NQ (A+B)=A+B:=by unfold NQ;omega
 have a3:NQ (A-B)=A-B:=by unfold NQ;omega
 have a1 : -4611686018427387904<=A*B/\A*B<=4611686018427387904:=by
  exact sR
 have a4:NQ (A*B)=A*B:=by unfold NQ;omega
 have j1:fV (A+B):=⟨by omega,by omega⟩
 have j2:fV (A-B):=⟨by omega,by omega⟩
 have j3:fV (A*B):=⟨by omega,by omega⟩
 clear hA hB;rcases a0 with rfl | rfl | rfl | rfl | rfl
 ·have HQ:=fE (show jh (2+3) a b=jP (A+B) from by unfold jh;rw[HA.out,HB.out];rfl)
  go_enter func267,ntmps267
  go_wp2_with(go_at_call 271;first
   | (with_reducible refine(zcD (x:=a) ha).mono ?_;rw[HA.out];rintro e w1 ⟨rfl,rfl⟩)
   | (with_reducible refine(zcD (x:=b) hb).mono ?_;rw[HB.out];rintro e w1 ⟨rfl,rfl⟩)
   | (with_reducible refine(zcD (x:=A+B) j1).mono ?_;rintro e w1 ⟨rfl,rfl⟩))
  rw[HQ.out];go_ret;exact⟨rfl,rfl⟩
 ·have HQ:=fE (show jh (3+3) a b=jP (A-B) from by unfold jh;rw[HA.out,HB.out];rfl)
  go_enter func267,ntmps267
  go_wp2_with(go_at_call 271;first
   | (with_reducible refine(zcD (x:=a) ha).mono ?_;rw[HA.out];rintro e w1 ⟨rfl,rfl⟩)
   | (with_reducible refine(zcD (x:=b) hb).mono ?_;rw[HB.out];rintro e w1 ⟨rfl,rfl⟩)
   | (with_reducible refine(zcD (x:=A-B) j2).mono ?_;rintro e w1 ⟨rfl,rfl⟩))
  rw[HQ.out];go_ret;exact⟨rfl,rfl⟩
 ·have HQ:=fE (show jh (4+3) a b=jP (A*B) from by unfold jh;rw[HA.out,HB.out];rfl)
  go_enter func267,ntmps267
  go_wp2_with(go_at_call 271;first
   | (with_reducible refine(zcD (x:=a) ha).mono ?_;rw[HA.out];rintro e w1 ⟨rfl,rfl⟩)
   | (with_reducible refine(zcD (x:=b) hb).mono ?_;rw[HB.out];rintro e w1 ⟨rfl,rfl⟩)
   | (with_reducible refine(zcD (x:=A*B) j3).mono ?_;rintro e w1 ⟨rfl,rfl⟩))
  rw[HQ.out];go_ret;exact⟨rfl,rfl⟩
 ·by_cases q:A<B
  ·have HQ:=fE (show jh (5+3) a b=1 from by unfold jh;rw[HA.out,HB.out];exact Lu q)
   exact nX
  ·have HQ:=fE (show jh (5+3) a b=0 from by unfold jh;rw[HA.out,HB.out];exact Lt q)
   exact nX
 ·by_cases q:A=B
  ·have HQ:=fE (show jh (6+3) a b=1 from by unfold jh;rw[HA.out,HB.out];exact Lu q)
   exact nX
  ·have HQ:=fE (show jh (6+3) a b=0 from by unfold jh;rw[HA.out,HB.out];exact Lt q)
   exact nX
theorem nY {g:Prop} (f:g:=by
  go_enter func254,ntmps254
  go_wp2_with(go_at_call 265;first
   | (with_reducible refine(zcE (x:=a) ha).mono ?_;rw[HA.out];rintro e w1 ⟨rfl,rfl⟩)
   | (with_reducible refine(zcE (x:=b) hb).mono ?_;rw[HB.out];rintro e w1 ⟨rfl,rfl⟩))
  rw[HQ.out]
  go_ret
  exact⟨rfl,rfl⟩):g:=f
theorem zqI (hk:2<=k/\k<=6)(ha:fV a)(hb:fV b):LR prog 254 #[F I k,F I a,F I b] w fun r w'=>r=.returned (F I (jh (k+3) a b))/\w'=w:=by
 obtain⟨A,hA⟩:∃ A,jP a=A:=⟨_,rfl⟩
 obtain⟨B,hB⟩:∃ B,jP b=B:=⟨_,rfl⟩
 have bA:=vo a;have bB:=vo b;rw[hA] at bA;rw[hB] at bB;have HA:=fE hA;have HB:=fE hB;have a0:k=2∨k=3∨k=4∨k=5∨k=6:=by omega
 have a2:NQ (A+B)=A+B:=by unfold NQ;omega
 have a3:NQ (A-B)=A-B:=by unfold NQ;omega
 have a1 : -4611686018427387904<=A*B/\A*B<=4611686018427387904:=by
  exact sR
 have a4:NQ (A*B)=A*B:=by unfold NQ;omega
 have j1:fV (A+B):=⟨by omega,by omega⟩
 have j2:fV (A-B):=⟨by omega,by omega⟩
 have j3:fV (A*B):=⟨by omega,by omega⟩
 clear hA hB;rcases a0 with rfl | rfl | rfl | rfl | rfl
 ·have HQ:=fE (show jh (2+3) a b=jP (A+B) from by unfold jh;rw[HA.out,HB.out];rfl)
  go_enter func254,ntmps254
  go_wp2_with(go_at_call 265;first
   | (with_reducible refine(zcE (x:=a) ha).mono ?_;rw[HA.out];rintro e w1 ⟨rfl,rfl⟩)
   | (with_reducible refine(zcE (x:=b) hb).mono ?_;rw[HB.out];rintro e w1 ⟨rfl,rfl⟩)
   | (with_reducible refine(zcE (x:=A+B) j1).mono ?_;rintro e w1 ⟨rfl,rfl⟩))
  rw[HQ.out];go_ret;exact⟨rfl,rfl⟩
 ·have HQ:=fE (show jh (3+3) a b=jP (A-B) from by unfold jh;rw[HA.out,HB.out];rfl)
  go_enter func254,ntmps254
  go_wp2_with(go_at_call 265;first
   | (with_reducible refine(zcE (x:=a) ha).mono ?_;rw[HA.out];rintro e w1 ⟨rfl,rfl⟩)
   | (with_reducible refine(zcE (x:=b) hb).mono ?_;rw[HB.out];rintro e w1 ⟨rfl,rfl⟩)
   | (with_reducible refine(zcE (x:=A-B) j2).mono ?_;rintro e w1 ⟨rfl,rfl⟩))
  rw[HQ.out];go_ret;exact⟨rfl,rfl⟩
 ·have HQ:=fE (show jh (4+3) a b=jP (A*B) from by unfold jh;rw[HA.out,HB.out];rfl)
  go_enter func254,ntmps254
  go_wp2_with(go_at_call 265;first
   | (with_reducible refine(zcE (x:=a) ha).mono ?_;rw[HA.out];rintro e w1 ⟨rfl,rfl⟩)
   | (with_reducible refine(zcE (x:=b) hb).mono ?_;rw[HB.out];rintro e w1 ⟨rfl,rfl⟩)
   | (with_reducible refine(zcE (x:=A*B) j3).mono ?_;rintro e w1 ⟨rfl,rfl⟩))
  rw[HQ.out];go_ret;exact⟨rfl,rfl⟩
 ·by_cases q:A<B
  ·have HQ:=fE (show jh (5+3) a b=1 from by unfold jh;rw[HA.out,HB.out];exact Lu q)
   exact nY
  ·have HQ:=fE (show jh (5+3) a b=0 from by unfold jh;rw[HA.out,HB.out];exact Lt q)
   exact nY
 ·by_cases q:A=B
  ·have HQ:=fE (show jh (6+3) a b=1 from by unfold jh;rw[HA.out,HB.out];exact Lu q)
   exact nY
  ·have HQ:=fE (show jh (6+3) a b=0 from by unfold jh;rw[HA.out,HB.out];exact Lt q)
   exact nY
theorem fJ.on {L:Q Nat} {v a b c:N} (h:fJ L v a)(hg:fF a b)(hon:fJ S b c)(hS:∀ k∈S,k∈L∨v.heap.size<=k):fJ L v c:=by
 have k:=h.trans (hg.only L);exact⟨hon.os.trans k.os,hon.tape.trans k.tape,hon.output.trans k.output,LO k.size hon.size,fun i hi hn=>(hon.block i (Li hi k.size) (fun hm=>(hS i hm).elim hn (fun h=>by omega))).trans (k.block i hi hn)⟩
theorem Ei {α:Type} {T:Ty α} {W:N} {g off:Nat} {xs:Q α} (h:Has (T.sl e) W [J (H ⟨g,off,V⟩) n c] xs S):g∈S:=by
 obtain⟨⟨A',c',a0,S',h1,h2,h3,h4⟩,_⟩:=h;injection h1 with h1 _
 injection h1 with hA _ _
 subst hA h4;simp[jQ]
theorem jb {B:Nat} (h:(zM.sl e).R w B [J A n c] xs){k:Nat}(hk:k<xs.length) :
  ∃ g off x A0 c0 A1 c1,A=H ⟨g,off,V⟩/\g<B/\xs[k]?=H x/\Lg w ⟨g,off+k*4,V⟩=H (F I x.Kind)/\Lg w ⟨g,off+k*4+1,V⟩=H (G x.Name)/\Lg w ⟨g,off+k*4+2,V⟩=H (J A0 x.fP.length c0)/\Lg w ⟨g,off+k*4+3,V⟩=H (J A1 x.Expr.length c1)/\fV x.Kind/\x.Name.size<=9223372036854775807/\(iH.sl 9).R w B [J A0 x.fP.length c0] x.fP/\(iz.sl 159).R w B [J A1 x.Expr.length c1] x.Expr:=by
 obtain⟨g,off,x,ec,h1,hB,h2,h3,h4⟩:=om h hk;obtain⟨A0,c0,A1,c1,rfl,hf⟩:=J4 h3;exact⟨g,off,x,A0,c0,A1,c1,h1,hB,h2,h4 0 _ rfl,h4 1 _ rfl,h4 2 _ rfl,h4 3 _ rfl,hf⟩
def pW (x:fG)(k:Int):fG:=⟨k,lr (k+1),AE x.fP (k+1+1),AG x.Expr (k+1+1+(x.fP.length:Nat))⟩
def nu (x:fG):Nat:=2+x.fP.length+uh x.Expr
def Kq (xs:Q fG)(k:Int):Q fG:=nq pW nu xs k
def tV (xs:Q fG):Nat:=lk nu xs
theorem Cd (x:fG):nu x=2+x.fP.length+uh x.Expr:=rfl
theorem Bv:(prog.info? 87).map (fun i=>(i.zero,i.size,i.bytes))=H (H (.agg #[F I 0,G ⟨#[]⟩,J V 0 0,J V 0 0]),4,72):=by kernel_rfl
theorem AI:iI prog 33 87 zM 72:=by
 obtain⟨i0,hi,a0,a1,a2⟩:=Nf Bv;exact⟨underlying33,⟨i0,_,hi,a0,a1,a2,rfl⟩,by decide⟩
theorem zlD {left:Int} (hx:(zM.sl 87).R w w.heap.size [v] xs)(h0:0<=left)(h1:left<=1099511627776) :
  LR prog 6 #[v,F I left] w fun e w'=>e=.returned (F I (kp left (jz kR xs)))/\fF w w':=by
 obtain⟨A,c,rfl,h2,h3⟩:=jV hx;by_cases h:(xs.length:Int)<=left
 ·go_enter func6,ntmps6
  go_wp2_with(fail);go_loopw [1,5] (fun a i wr=>∃(j s:Nat),j<=xs.length/\Hid (s=((xs.take j).map kR).sum)/\(xs.length:Int)+s<=left/\a=F I (left-xs.length-s)/\i=F I j/\Hid (fF w wr)) (fun _ i _=>xs.length-(Ml i).toNat)
  case atStart=>exact⟨0,0,Lv _,rfl,by omega,by simp,rfl,fF.refl _⟩
  case round=>
   obtain⟨j,s,hj,hs,a8,rfl,rfl,hG⟩:=hrel;obtain⟨os,d,rfl⟩:=hG.out;clear hG;by_cases hlt:j<xs.length
   ·obtain⟨g,ad,x,A0,c0,A1,c1,rfl,a7,a4,a9,aa,ab,ac,a6,a0,a1,a2⟩:=jb hx hlt
    have HX:=fE (wP kR a4);have HM:=fE (wT kR xs (j+1));obtain⟨n0,a3⟩:∃ n,kR x=n:=⟨_,rfl⟩
    have HN:=fE a3;clear a4 hx a3;by_cases hsz:(xs.length:Int)+s+n0<=left
    ·have HR:=fE (show kp (left-xs.length-s) n0=left-xs.length-s-n0 from Lu (by omega))
     go_wp2_with(go_at_call 30;refine(znP (x:=x) a0 (Ty.up _ a1 gG) (Ty.up _ a2 gG) (by omega) (by omega)).mono ?_;rw[HN.out,HR.out];rintro e w1 ⟨rfl,a5,d1,rfl⟩);exact sP
    ·have HR:=fE (show kp (left-xs.length-s) n0 = -1 from Lt (by omega))
     have HQ:=fE (show kp left (jz kR xs) = -1 from Lt (by have h1:=HX.out;have h2:=HM.out;have h3:=hs.out;have h4:=HN.out;unfold jz;omega));go_wp2_with(go_at_call 30;refine(znP (x:=x) a0 (Ty.up _ a1 gG) (Ty.up _ a2 gG) (by omega) (by omega)).mono ?_;rw[HN.out,HR.out];rintro e w1 ⟨rfl,a5,d1,rfl⟩);go_ret;exact⟨kk HQ.out.symm,gG⟩
   ·go_wp2
    go_ret
    exact⟨kk (by
     have h3:=hs.out;rw[AP kR (show j=xs.length by omega)] at h3;unfold kp jz;rw[Lu (by omega)]
     omega),gG⟩
 ·have HR:=fE (show kp left (jz kR xs) = -1 from Lt (by unfold jz;omega))
  go_enter func6,ntmps6;go_wp2;go_ret;exact⟨kk HR.out.symm,fF.refl _⟩
theorem zgG (hx:(zM.sl 87).R w w.heap.size [v] xs)(hn:jz kR xs<=1099511627776) :
  LR prog 8 #[v] w (wR zM 87 xs w):=by
 obtain⟨A,c,rfl,h2,h3⟩:=jV hx;obtain⟨i0,hi,a5,a6,a7⟩:=Nf Bv;have ai:xs.length<=1099511627776:=LO (tx _ _) hn;have a4:=uy (P:=prog) 33 87 i0 _ underlying33 hi a5 I I xs.length xs.length (Lz _) (by rw[a7];omega) (by omega);rw[a6] at a4;clear a5 a6 a7 hi;go_enter func8,ntmps8;go_wp2_with(fail);go_loopw [4] (fun i wr=>∃(j:Nat) (a0:Array LA) (os:Array Obj) (d:Nat) (S':Q Nat),j<=xs.length/\i=F I j/\Hid (wr=fO (w.alloc (C a0 87)) os d)/\Hid (Rows zM (fO (w.alloc (C a0 87)) os d) (a0.toList.take (j*4)) (xs.take j) S')/\Hid (S'.Nodup)/\Hid (∀ b∈S',w.heap.size+1<=b)/\Hid (a0.size=xs.length*4)) (fun i _=>xs.length-(Ml i).toNat)
 case atStart=>exact⟨0,_,_,_,[],Lv _,rfl,yV,fE (by simp[Rows]),fE Ou,fE (by simp),xy _ _⟩
 case round=>
  obtain⟨j,a0,os,d,S',hj,rfl,hw,hr,hN,hL,a1⟩:=hrel;have ae:=hw.out;subst ae;clear hw a4;by_cases hlt:j<xs.length
  ·obtain⟨g,ar,x,A0,c0,A1,c1,rfl,ag,a3,an,ao,ap,aq,a9,aa,ab,ac⟩:=jb hx hlt
   have ah:j*4+3<a0.size:=by have:=a1.out;omega
   have HX:=fE a3;have a2:kR x<=1099511627776:=LO (Ab kR a3) hn;clear a3 hx;go_wp2_with(fail);refine(zrN (x:=x) a9 aa (Ty.up _ ab gG) (Ty.up _ ac gG) a2).mono ?_;rintro e w1 ⟨B0,f0,B1,f1,rfl,hF,af,d1,rfl⟩;obtain⟨o0,aj⟩:∃ u,a0[j*4]?=H u:=⟨_,MW (by omega)⟩
   obtain⟨o1,ak⟩:∃ u,(a0.setIfInBounds (j*4) (F I x.Kind))[j*4+1]?=H u:=⟨_,MW (by simp only[MQ];omega)⟩
   obtain⟨o2,al⟩:∃ u,((a0.setIfInBounds (j*4) (F I x.Kind)).setIfInBounds (j*4+1) (G x.Name))[j*4+2]?=H u:=⟨_,MW (by simp only[MQ];omega)⟩
   obtain⟨o3,am⟩:∃ u,(((a0.setIfInBounds (j*4) (F I x.Kind)).setIfInBounds (j*4+1) (G x.Name)).setIfInBounds (j*4+2) (J B0 x.fP.length f0))[j*4+3]?=H u:=⟨_,MW (by simp only[MQ];omega)⟩
   go_wp2;go_roundw
   case rel=>
    rw[tD] at hF;obtain⟨a8,h1,h2,h3,h4⟩:=DQ (T:=zM) hr.out hN.out hL.out a1.out hlt HX.out hF (by rw[<-tD];exact fF.of _ _ _);exact⟨j+1,_,os++af,d1,a8,by omega,by go_num,tD _ _ _ _,h1,h2,h3,h4⟩
   case measure=>exact gL
  ·have ad:j=xs.length:=by omega
   subst ad;go_wp2;go_ret;exact Dz hr.out hN.out hL.out a1.out (Lz _) (by omega)
theorem zpH {ys:Q fG} {u:LA} (hx:(zM.sl 87).R w w.heap.size [v] xs)(hy:(zM.sl 87).R w w.heap.size [u] ys) :
  LR prog 12 #[v,u] w fun e w'=>e=.returned (X (decide (xs=ys)))/\fF w w':=by
 obtain⟨A,c,rfl,h1,h2⟩:=jV hx;obtain⟨A',c',rfl,k1,k2⟩:=jV hy;by_cases hl:xs.length=ys.length
 ·have ab:((xs.length:Int) != (ys.length:Int))=U:=by simp[hl]
  have HL:=fE hl;clear hl;go_enter func12,ntmps12;go_wp2_with(fail);go_loopw [5] (fun i wr=>∃ k:Nat,k<=xs.length/\i=F I k/\Hid (fF w wr)/\Hid (xs.take k=ys.take k)) (fun i _=>xs.length-(Ml i).toNat)
  case atStart=>exact⟨0,Lv _,rfl,fF.refl _,fE (by simp)⟩
  case round=>
   obtain⟨k,hk,rfl,hG,HT⟩:=hrel;obtain⟨os,d,rfl⟩:=hG.out;clear hG;by_cases hlt:k<xs.length
   ·have a2:k<ys.length:=by rw[<-HL.out];exact hlt
    obtain⟨g,a1,x,A0,c0,A1,c1,rfl,ah,a7,ai,aj,ak,al,ad,ae,a3,a4⟩:=jb hx hlt;obtain⟨g',a0,y,B0,e0,B1,e1,rfl,aa,a8,am,an,ao,ap,af,ag,a5,a6⟩:=jb hy a2;have HX:=fE a7;have HY:=fE a8;clear a7 a8 hx hy;by_cases hxy:x=y
    ·subst hxy
     go_wp2_with(fail)
     go_region_held3 (fun w'=>Lg w' ⟨g,a1+k*4,V⟩=H (F I x.Kind)/\Lg w' ⟨g,a1+k*4+1,V⟩=H (G x.Name)/\Lg w' ⟨g,a1+k*4+2,V⟩=H (J A0 x.fP.length c0)/\Lg w' ⟨g,a1+k*4+3,V⟩=H (J A1 x.Expr.length c1)/\Lg w' ⟨g',a0+k*4,V⟩=H (F I x.Kind)/\Lg w' ⟨g',a0+k*4+1,V⟩=H (G x.Name)/\Lg w' ⟨g',a0+k*4+2,V⟩=H (J B0 x.fP.length e0)/\Lg w' ⟨g',a0+k*4+3,V⟩=H (J B1 x.Expr.length e1)) ((repeat' apply Ls) <;> (first | ((repeat (first | assumption | with_reducible refine zC ?_ _ _ | with_reducible refine zo ?_ _ | with_reducible refine zb ?_));done) | (simp[go_sem];done))) (first
      | (go_at_call 54;refine(zmW (x:=x) (y:=x) (Ty.up _ a3 gG) (Ty.up _ a4 gG) (Ty.up _ a5 gG) (Ty.up _ a6 gG)).mono ?_;rintro e w1 ⟨rfl,ac,d1,rfl⟩))
     go_wp2;go_roundw;exact⟨k+1,by omega,by go_num,fE gG,fE (by rw[lJ HX.out,lJ HY.out,HT.out])⟩;exact gL
    ·have a9:=fE (show decide (x=y)=U from by simp[hxy])
     go_wp2_with(fail)
     go_region_held3 (fun w'=>Lg w' ⟨g,a1+k*4,V⟩=H (F I x.Kind)/\Lg w' ⟨g,a1+k*4+1,V⟩=H (G x.Name)/\Lg w' ⟨g,a1+k*4+2,V⟩=H (J A0 x.fP.length c0)/\Lg w' ⟨g,a1+k*4+3,V⟩=H (J A1 x.Expr.length c1)/\Lg w' ⟨g',a0+k*4,V⟩=H (F I y.Kind)/\Lg w' ⟨g',a0+k*4+1,V⟩=H (G y.Name)/\Lg w' ⟨g',a0+k*4+2,V⟩=H (J B0 y.fP.length e0)/\Lg w' ⟨g',a0+k*4+3,V⟩=H (J B1 y.Expr.length e1)) ((repeat' apply Ls) <;> (first | ((repeat (first | assumption | with_reducible refine zC ?_ _ _ | with_reducible refine zo ?_ _ | with_reducible refine zb ?_));done) | (simp[go_sem];done))) (first
      | (go_at_call 54;refine(zmW (x:=x) (y:=y) (Ty.up _ a3 gG) (Ty.up _ a4 gG) (Ty.up _ a5 gG) (Ty.up _ a6 gG)).mono ?_;rw[a9.out];rintro e w1 ⟨rfl,ac,d1,rfl⟩))
     go_wp2;go_ret;refine⟨zy ?_,gG⟩;symm;simp only[Me];rintro rfl;exact hxy (M0 (HX.out.symm.trans HY.out))
   ·go_wp2
    go_ret;refine⟨zy ?_,gG⟩;have:k=xs.length:=by omega
    exact lG
 ·have ab:((xs.length:Int) != (ys.length:Int))=M:=by simp;omega
  go_enter func12,ntmps12;exact lH
theorem znz (hO:(zM.sl 87).O w [J A n c] xs S)(hS:S.Nodup)(h0:0<k)(h1:k+(tV xs:Nat)<=1099511627776) :
  LR prog 13 #[J A n c,F I k] w fun e w'=>e=.returned (F I (k+(tV xs:Nat)))/\(zM.sl 87).O w' [J A n c] (Kq xs k) S/\fJ S w w':=by
 obtain⟨_,_,hx,h2,h3⟩:=jV (Ty.read _ hO);injection hx with hA hn hc
 subst hA hn hc;have bm:=h3;clear h3;unfold tV at h1 |-;go_enter func13,ntmps13;go_wp2_with(fail);go_loopw [1,5] (fun a i wr=>∃(j q:Nat),j<=xs.length/\a=F I (k+q)/\i=F I j/\Hid (lk nu (xs.take j)=q)/\Hid ((zM.sl 87).O wr [J A xs.length c] (m8 pW nu xs k j) S)/\Hid (fJ S w wr)) (fun _ i _=>xs.length-(Ml i).toNat)
 case atStart=>exact⟨0,0,Lv _,by simp,rfl,fE (by simp[lk]),fE (by rw[tr];exact hO),fJ.refl _ _⟩
 case round=>
  obtain⟨j,q,hj,rfl,rfl,hq,ho,hs⟩:=hrel;by_cases hlt:j<xs.length
  ·have ak:xs[j]?=H xs[j]:=Lo hlt
   obtain⟨g,ec,Sc,a7,rfl,bc,aR,aQ,b1,aZ,aj,hb,b7,a2,ai⟩:=Kr ho.out hS (tv ak k);generalize hxe:xs[j]=x at ak aj;clear hxe
   have bh:q+nu x<=lk nu xs:=by
    have:=yA (cnt:=nu) ak;have h9:=Bx (cnt:=nu) xs (j+1);have:=hq.out;omega
   have bg:=fE (show lk nu (xs.take (j+1))=q+nu x from by rw[yA ak,hq.out]);rw[Cd] at bh;obtain⟨A0,c0,S0,A1,c1,S1,b6,rfl,_,_,aH,aj⟩:=Az aj;subst b6;have aU:=a2 0 _ rfl;have aV:=a2 1 _ rfl;have aD:=a2 2 _ rfl;have aE:=a2 3 _ rfl;simp only[Nat.add_zero,show zM.size=4 from rfl] at b7 ai aU aV aD aE;have b2:Lg wr ⟨g,j*4,V⟩=H (F I x.Kind):=(MD wr g _ a7 _ (0,0) hb).trans aU;have b3:Lg wr ⟨g,j*4+1,V⟩=H (G x.Name):=(MD wr g _ a7 _ (0,0) hb).trans aV;have b4:Lg wr ⟨g,j*4+2,V⟩=H (J A0 x.fP.length c0):=(MD wr g _ a7 _ (0,0) hb).trans aD;have b5:Lg wr ⟨g,j*4+3,V⟩=H (J A1 x.Expr.length c1):=(MD wr g _ a7 _ (0,0) hb).trans aE;have b8:=oN hb (j*4);have b9:=oN hb (j*4+1);have ba:=oN hb (j*4+2);have bb:=oN hb (j*4+3);have HX:=fE ak;have HS:=fE ai;obtain⟨aX,aY,aA,aB⟩:=uq aZ;clear a2 ai ak hO aj;have bn:=Ty.jB _ aH;have ay:g∉S0:=fun hm=>aQ (by simp[hm]);have bo:=Ty.jB _ aj;have az:g∉S1:=fun hm=>aQ (by simp[hm]);go_wp2_with(first | (go_at_call 55;refine(pt _ (by omega) (by omega) _).mono ?_;rintro e w9 ⟨rfl,os,d,rfl⟩));refine(Fs (xs:=x.fP) (rp _ aH ((((fJ.refl [g] wr).setCell (p:=⟨g,_,V⟩) (by simp) _).setCell (p:=⟨g,_,V⟩) (by simp) _).trans ((fF.of _ _ _).only _)) (ug ay)) aX (by omega) (by omega)).mono ?_;rintro e w1 ⟨rfl,aC,aF⟩;have a3:w1.heap[g]?=H (C ((a7.setIfInBounds (j*4) (F I (k+(q:Int)))).setIfInBounds (j*4+1) (G (lr (k+(q:Int)+1)))) _ (0,0)):=(aF.block g (Li aR (((((fJ.refl [g] wr).setCell (p:=⟨g,_,V⟩) (by simp) _).setCell (p:=⟨g,_,V⟩) (by simp) _).trans ((fF.of _ _ _).only _))).size) ay).trans (zj (pj (pj hb _ _) _ _) (fF.of _ _ _));have ag:fJ ([g]++S0) wr w1:=(((((fJ.refl [g] wr).setCell (p:=⟨g,_,V⟩) (by simp) _).setCell (p:=⟨g,_,V⟩) (by simp) _).trans ((fF.of _ _ _).only _)).mono (fun b hb=>by simp at hb;simp[hb])).trans (aF.mono (fun b hb=>by simp[hb]));have am:=rp _ (rp _ aj ((((fJ.refl [g] wr).setCell (p:=⟨g,_,V⟩) (by simp) _).setCell (p:=⟨g,_,V⟩) (by simp) _).trans ((fF.of _ _ _).only _)) (ug az)) aF aB;obtain⟨a0,a5⟩:∃ c,((a7.setIfInBounds (j*4) (F I (k+(q:Int)))).setIfInBounds (j*4+1) (G (lr (k+(q:Int)+1))))=c:=⟨_,rfl⟩
   rw[a5] at a3;have a8:a0[j*4]?=H (F I (k+(q:Int))):=by rw[<-a5];rw[MT (by omega)];exact Oe (by(try simp only[MQ]);omega)
   have an:Lg w1 ⟨g,j*4,V⟩=H (F I (k+(q:Int))):=(MD w1 g _ a0 _ (0,0) a3).trans a8;have ar:=oN a3 (j*4);have a9:a0[j*4+1]?=H (G (lr (k+(q:Int)+1))):=by rw[<-a5];exact Oe (by(try simp only[MQ]);omega)
   have ao:Lg w1 ⟨g,j*4+1,V⟩=H (G (lr (k+(q:Int)+1))):=(MD w1 g _ a0 _ (0,0) a3).trans a9;have au:=oN a3 (j*4+1);have aa:a0[j*4+2]?=H (J A0 x.fP.length c0):=by rw[<-a5];rw[MT (by omega)];rw[MT (by omega)];exact aD
   have ap:Lg w1 ⟨g,j*4+2,V⟩=H (J A0 x.fP.length c0):=(MD w1 g _ a0 _ (0,0) a3).trans aa;have av:=oN a3 (j*4+2);have ab:a0[j*4+3]?=H (J A1 x.Expr.length c1):=by rw[<-a5];rw[MT (by omega)];rw[MT (by omega)];exact aE
   have aq:Lg w1 ⟨g,j*4+3,V⟩=H (J A1 x.Expr.length c1):=(MD w1 g _ a0 _ (0,0) a3).trans ab;have aw:=oN a3 (j*4+3);have bi:a0.size=a7.size:=by(first | (rw[<-a5];done) | (rw[<-a5];simp only[MQ]))
   have be:∀ i,i<j*4∨j*4+4<=i->a0[i]?=a7[i]?:=fun i hi=>by rw[<-a5];rw[MT (by omega)];rw[MT (by omega)]
   have bk:=fE a5;clear a5;have ax:g<w1.heap.size:=Li aR ag.size;clear b2 b8 b3 b9 b4 ba b5 bb;go_wp2_with(first | (go_at_call 55;refine(pt _ (by omega) (by omega) _).mono ?_;rintro e w9 ⟨rfl,os,d,rfl⟩));refine(zoC (xs:=x.Expr) (rp _ am (fJ.refl [g] w1) (ug az)) aY (by omega) (by omega)).mono ?_;rintro e w2 ⟨rfl,aW,aG⟩;have a4:w2.heap[g]?=H (C a0 _ (0,0)):=(aG.block g (Li ax ((fJ.refl [g] w1)).size) az).trans a3;have ah:fJ ([g]++S1) w1 w2:=((fJ.refl [g] w1).mono (fun b hb=>by simp at hb;simp[hb])).trans (aG.mono (fun b hb=>by simp[hb]));have al:=rp _ (rp _ aC (fJ.refl [g] w1) (ug ay)) aG aA;replace aC:=al;obtain⟨a1,a6⟩:∃ c,a0=c:=⟨_,rfl⟩
   rw[a6] at a4;have ac:a1[j*4]?=H (F I (k+(q:Int))):=by rw[<-a6];exact a8
   have aI:Lg w2 ⟨g,j*4,V⟩=H (F I (k+(q:Int))):=(MD w2 g _ a1 _ (0,0) a4).trans ac;have aM:=oN a4 (j*4);have ad:a1[j*4+1]?=H (G (lr (k+(q:Int)+1))):=by rw[<-a6];exact a9
   have aJ:Lg w2 ⟨g,j*4+1,V⟩=H (G (lr (k+(q:Int)+1))):=(MD w2 g _ a1 _ (0,0) a4).trans ad;have aN:=oN a4 (j*4+1);have ae:a1[j*4+2]?=H (J A0 x.fP.length c0):=by rw[<-a6];exact aa
   have aK:Lg w2 ⟨g,j*4+2,V⟩=H (J A0 x.fP.length c0):=(MD w2 g _ a1 _ (0,0) a4).trans ae;have aO:=oN a4 (j*4+2);have af:a1[j*4+3]?=H (J A1 x.Expr.length c1):=by rw[<-a6];exact ab
   have aL:Lg w2 ⟨g,j*4+3,V⟩=H (J A1 x.Expr.length c1):=(MD w2 g _ a1 _ (0,0) a4).trans af;have aP:=oN a4 (j*4+3);have bj:a1.size=a0.size:=by(first | (rw[<-a6];done) | (rw[<-a6];simp only[MQ]))
   have bf:∀ i,i<j*4∨j*4+4<=i->a1[i]?=a0[i]?:=fun i hi=>by rw[<-a6]
   have bl:=fE a6;clear a6;have bd:g<w2.heap.size:=Li ax ah.size;clear an ar ao au ap av aq aw;go_wp2_with(first | (go_at_call 55;refine(pt _ (by omega) (by omega) _).mono ?_;rintro e w9 ⟨rfl,os,d,rfl⟩));go_roundw
   case rel=>
    have e:=tw (mk:=pW) (cnt:=nu) HX.out k;rw[hq.out] at e;refine⟨j+1,q+nu x,by omega,?_,by go_num,bg,fE ?_,fE ?_⟩
    ·exact MY (F I) (by rw[Cd];push_cast;omega)
    ·rw[<-e]
     have b0:∀ W,fJ [g] w2 W->zM.O W [F I (k+(q:Int)),G (lr (k+(q:Int)+1)),J A0 x.fP.length c0,J A1 x.Expr.length c1] (pW x (k+(q:Int))) (S0++S1):=fun W hW=>by
      have h:=(vQ (x:=(pW x (k+(q:Int)))) ⟨by simp only[pW];omega,by simp only[pW];omega⟩ (uD _ (by omega) (by omega)) (rp _ (by simpa[pW,xu,xv] using aC) hW (ug ay)) (rp _ (by simpa[pW,xu,xv] using aW) hW (ug az)))
      simpa[pW,xu,xv] using h
     refine HS.out _ _ _ _ (b0 _ (fJ.refl [g] w2)) a4 ?_ ?_ ?_ ?_
     ·simp only[MQ,bj,bi]
     ·intro i hi
      rw[bf i hi];rw[be i hi]
     ·intro t u hu
      exact match t,hu with
      | 0,hu=>by
       cases hu;exact ac
      | 1,hu=>by
       cases hu;exact ad
      | 2,hu=>by
       cases hu;exact ae
      | 3,hu=>by
       cases hu;exact af
      | t+4,hu=>by simp at hu
     ·exact(((ag.mono (fun b hb=>by simp at hb |-;rcases hb with h | h <;> simp[h])).trans (ah.mono (fun b hb=>by simp at hb |-;rcases hb with h | h <;> simp[h]))).trans ((fJ.refl [g] w2).mono (fun b hb=>by simp at hb;simp[hb])))
    ·exact hs.out.trans (((((ag.mono (fun b hb=>by simp at hb |-;rcases hb with h | h <;> simp[h])).trans (ah.mono (fun b hb=>by simp at hb |-;rcases hb with h | h <;> simp[h]))).trans ((fJ.refl [g] w2).mono (fun b hb=>by simp at hb;simp[hb]))):fJ (g::(S0++S1)) wr _).mono (fun b hb=>by
      rcases LU.1 hb with rfl | hb
      ·exact bc
      ·exact b1 b (by simpa using hb)))
   case measure=>exact gL
  ·go_wp2
   have:j=xs.length:=by omega
   subst this;have aS:=ho.out;rw[tu] at aS;have aT:=hq.out;rw[MJ] at aT;go_ret;exact⟨kk (by rw[aT]),aS,hs.out⟩
end Go.Proofs.YtiihkapmggfjkaaGreat
