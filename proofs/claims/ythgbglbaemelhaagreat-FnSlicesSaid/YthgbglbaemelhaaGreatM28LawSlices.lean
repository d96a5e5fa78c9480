/-
  PART.
-/
import Derived.Test.YthgbglbaemelhaaGreatM24LawSlices
import Derived.Test.YthgbglbaemelhaaGreatM27LawSlices
set_option linter.unusedVariables false
set_option linter.unusedSimpArgs false
set_option maxRecDepth 100000
set_option maxHeartbeats 8000000
namespace Go.Proofs.YthgbglbaemelhaaGreat
open Value renaming slice->G,int->J,bool->H,string->V
open IntKind renaming i64->C,wrap->QP
open Option renaming none->D,some->Z
open Obj renaming cells->F
open Bool renaming false->I,true->M
open Go renaming World->U,results->Rd,Calls->Rh,Addr->Ri
open RowKit renaming intOf->Ry
open Tryz
open Go.RowKit
variable {W w:U}{k:Nat}{p:Q fv}
def yC (W:U)(k:Nat)(A:X Ri)(c:Nat)(p:Q fv):Prop:=∀ W2,fw [k] W W2->(zJ.sl 99).R W2 W2.heap.size [G A p.length c] p
structure iz (p:Q fv):Prop where
 ok:zv p=M
 short:ov p
 four:(zp p).length<=4
 len:p.length<=1000
 parts:∀ x∈p,x.fM.length<=1099511627776/\x.Expr.length<=1099511627776
theorem iz.of (h:zv p=M)(hl:∀ x∈p,su x)(hc:oW p<=4)(hn:p.length<=500):iz p:=
 ⟨h,fun i x hx=>(hl x (Q9 hx)).1,by unfold zp;rw[FW];exact hc,by omega,fun x hx=>⟨by have:=(hl x hx).2;omega,by have:=(hl x hx).1;omega⟩⟩
theorem iz.one:iz xd:=iz.of Pe (fun x hx=>by
 simp only[xd,Rp,RO,SH] at hx
 rcases hx with rfl | rfl | rfl | rfl <;> exact⟨by decide,by decide⟩) (by decide) (by decide)
theorem iz.names (h:iz p):∀ x∈p,x.Name.size<=9223372036854775807:=by
 intro x hx;obtain⟨i,hi,rfl⟩:=List.getElem_of_mem hx;have h1:=F5 h.ok (i:Int);rw[wK (QW hi)] at h1;omega
def P6 (w W:U)(k:Nat)(e:Ending)(W':U):Prop:=∃ A c p S,e=.returned (G A p.length c)/\iz p/\(zJ.sl 99).O W' [G A p.length c] p S/\(∀ b∈S,W.heap.size<=b)/\iM w W' k/\fw [k] W W'
theorem Pk {W':U} {A:X Ri} {c:Nat} {S:Q Nat} (h:(zJ.sl 99).O W' [G A p.length c] p S)(hk:k∉S):yC W' k A c p:=
 fun W2 h2=>Ty.read _ ((zJ.sl 99).gD h (fun b hb=>h2.block b ((zJ.sl 99).ja h b hb) (fun hm=>by simp only[QN] at hm;subst hm;exact hk hb)))
theorem Pf {g1 g2:Nat} (h1:W.heap[g1]?=Z (F #[J C 0,J C 1,V { data:=#[] }] 160 (0,0)))
  (h2:W.heap[g2]?=Z (F #[J C 0,V { data:=#[109,97,105,110] },G D 0 0,G D 0 0,J C 2,V { data:=#[] },G D 0 0,G (Z ⟨g1,0,D⟩) 1 1,J C 6,V { data:=#[] },G D 0 0,G (Z ⟨g1,0,D⟩) 1 1,J C 7,V { data:=#[] },G D 0 0,G D 0 0] 99 (0,0)))
 : (zJ.sl 99).O W [G (Z ⟨g2,0,D⟩) 4 4] xd [g2,g1,g1]:=by
 have k1:=h1
 have k2:=h2
 have ht:(iZ.sl 160).O W [G (Z ⟨g1,0,D⟩) 1 1] [(⟨0,1,emp⟩:gB)] [g1]:=
  pS (xs:=[(⟨0,1,emp⟩:gB)]) k1 (S:=[]) ⟨_,[],[],[],rfl,rfl,Ov (x:=⟨0,1,emp⟩) ⟨by decide,by decide⟩ ⟨by decide,by decide⟩ (by decide),⟨rfl,rfl⟩⟩ (by decide)
 have a0:=(Has.nil iH 9 W).1
 have a1:=(Has.nil iZ 160 W).1
 have hO:=pS (T:=zJ) (xs:=xd) (S:=[g1,g1]) k2 ⟨_,_,[],[g1,g1],rfl,rfl,xO (x:=⟨0,sU,[],[]⟩) D 0 [] D 0 [] ⟨by decide,by decide⟩ (by decide) a0 a1,
  ⟨_,_,[g1],[g1],rfl,rfl,xO (x:=⟨2,emp,[],[⟨0,1,emp⟩]⟩) D 0 [] (Z ⟨g1,0,D⟩) 1 [g1] ⟨by decide,by decide⟩ (by decide) a0 ht,
  ⟨_,_,[g1],[],rfl,rfl,xO (x:=⟨6,emp,[],[⟨0,1,emp⟩]⟩) D 0 [] (Z ⟨g1,0,D⟩) 1 [g1] ⟨by decide,by decide⟩ (by decide) a0 ht,
  ⟨_,[],[],[],rfl,rfl,xO (x:=⟨7,emp,[],[]⟩) D 0 [] D 0 [] ⟨by decide,by decide⟩ (by decide) a0 a1,⟨rfl,rfl⟩⟩⟩⟩⟩ (by decide)
 exact hO
theorem zvS (hC:iM w W k):Rh prog 68 #[.pointer (Z ⟨k,0,D⟩)] W (P6 w W k):=by
 have a4:=hC.lt;go_enter func68,ntmps68;go_wp2_with(fail);go_loopw [3] (fun i wr=>∃ j:Nat,i=J C j/\j<=5/\Hid (iM w wr k)/\Hid (fw [k] W wr)) (fun i _=>5-(Ry i).toNat)
 case atStart=>exact⟨0,rfl,by omega,fh hC,fh (fw.refl _ _)⟩
 obtain⟨j,rfl,hj,HC,HO⟩:=hrel;by_cases hlt:j<5
 ·have a1:(j:Int)<5:=by omega
  have a6:QP C ((j:Int)+1)=(j:Int)+1:=iw;go_upto_region 5 with(go_at_call 101;(with_reducible refine(zsZ HC.out).mono ?_);rintro e W1 ⟨A,n,c,out,S,rfl,hn,hL,hF,h1⟩);obtain rfl:=h1.len;obtain⟨pb,a0⟩:∃ pb,zv out=pb:=⟨_,rfl⟩
  have a2:=fh a0;have a3:=fh (fun(x:fv) (hx:x∈out)=>(⟨by have:=(hL x hx).2;omega,by have:=(hL x hx).1;omega⟩:x.fM.length<=1099511627776/\x.Expr.length<=1099511627776));cases pb with
  | true=>
   have hD:=fh (iz.of a0 hL hF hn);clear a0 hL hF;go_wp2_with(go_at_call 102;(with_reducible refine(zaD h1.has.read (by omega) a3.out).mono ?_);rw[a2.out];rintro e W2 ⟨rfl,hG⟩);go_ret;have h2:=h1.fx hG;exact⟨A,c,out,S,rfl,hD.out,h2.has.1,fun b hb=>Rj HO.out.size (h2.lo b hb),h2.cur,HO.out.trans h2.only⟩
  | false=>
   clear a0 hL hF;go_wp2_with(go_at_call 102;(with_reducible refine(zaD h1.has.read (by omega) a3.out).mono ?_);rw[a2.out];rintro e W2 ⟨rfl,hG⟩);go_roundw
   case measure=>exact gH
   case rel=>
    have h2:=h1.fx hG;exact⟨j+1,by go_num,by omega,fh h2.cur,fh (HO.out.trans h2.only)⟩
 ·have a1:¬ (j:Int)<5:=by omega
  go_wp2_with(fail);have a5:=HC.out.lt;have e1:=QO wr (F #[J C 0,J C 1,V { data:=#[] }] 160);have e2:=QO (wr.alloc (F #[J C 0,J C 1,V { data:=#[] }] 160)) (F #[J C 0,V { data:=#[109,97,105,110] },G D 0 0,G D 0 0,J C 2,V { data:=#[] },G D 0 0,G (Z ⟨wr.heap.size,0,D⟩) 1 1,J C 6,V { data:=#[] },G D 0 0,G (Z ⟨wr.heap.size,0,D⟩) 1 1,J C 7,V { data:=#[] },G D 0 0,G D 0 0] 99);rw[Rf] at e2;have hG:ft wr ((wr.alloc (F #[J C 0,J C 1,V { data:=#[] }] 160)).alloc (F #[J C 0,V { data:=#[109,97,105,110] },G D 0 0,G D 0 0,J C 2,V { data:=#[] },G D 0 0,G (Z ⟨wr.heap.size,0,D⟩) 1 1,J C 6,V { data:=#[] },G D 0 0,G (Z ⟨wr.heap.size,0,D⟩) 1 1,J C 7,V { data:=#[] },G D 0 0,G D 0 0] 99)):=gG;have e1:=zj e1 (show ft _ ((wr.alloc (F #[J C 0,J C 1,V { data:=#[] }] 160)).alloc (F #[J C 0,V { data:=#[109,97,105,110] },G D 0 0,G D 0 0,J C 2,V { data:=#[] },G D 0 0,G (Z ⟨wr.heap.size,0,D⟩) 1 1,J C 6,V { data:=#[] },G D 0 0,G (Z ⟨wr.heap.size,0,D⟩) 1 1,J C 7,V { data:=#[] },G D 0 0,G D 0 0] 99)) from gG);go_ret;exact⟨Z ⟨wr.heap.size+1,0,D⟩,4,xd,_,rfl,iz.one,Pf (g1:=wr.heap.size) (g2:=wr.heap.size+1) e1 e2,fun b hb=>by have:=HO.out.size;simp only[Rp,RO,SH] at hb;omega,HC.out.more hG,HO.out.trans (hG.only _)⟩
def PZ (w W:U)(k:Nat)(e:Ending)(W':U):Prop:=∃ b:fV,e=.returned (.agg #[J C b.Frames,J C b.Inline,H b.Fold,H b.Split])/\jM b=M/\iM w W' k/\fw [k] W W'
theorem Dv:∀ x∈([0,1,2,3]:Q Int),fD x/\0<=x/\x<=3:=by
 intro x hx;have:x=0∨x=1∨x=2∨x=3:=by simpa using hx
 exact vu
theorem zvj (hC:iM w W k):Rh prog 69 #[.pointer (Z ⟨k,0,D⟩)] W (PZ w W k):=by
 have aw:=hC.lt;go_enter func69,ntmps69;go_upto_region 1 with(fail);have e2:=QO W (F #[J C 0,J C 0,H I,H I] 71);have hG:ft W (W.alloc (F #[J C 0,J C 0,H I,H I] 71)):=gG;generalize (W.alloc _)=Y at e2 hG |-;obtain⟨g2,ag⟩:∃ g,W.heap.size=g:=⟨_,rfl⟩
 rw[ag] at e2 |-;have au:=fh ag;have ab:g2≠k:=by omega
 have ax:w.heap.size<=g2:=by have:=hC.lo;omega
 clear ag;have am:=hC.more hG;have af:=hG.only [k]
 go_upto_region 2 with(first
  | (go_at_call 36;(with_reducible refine(nO am 64 (by decide) (by decide)).mono ?_);rintro e W1 ⟨x,rfl,hx,ac,a3⟩;have hI:=Db (W:=W1) (e:=3) (cs:=#[J C 0,J C 1,J C 2,J C 3]) (n:=4) (g:=W1.heap.size) [0,1,2,3] rfl rfl rfl (fun a ha=>(Dv a ha).1) (by decide);have a1:iM w (W1.alloc (F #[J C 0,J C 1,J C 2,J C 3] 3)) k:=ac.more gG;have ar:∀ ad,Z (⟨W1.heap.size,0,D⟩:Ri)=Z ad->ad.block≠k:=(fun ad e=>by injection e with e;subst e;have:=ac.lt;simp only;omega))
  | (go_at_call 71;(with_reducible refine(zqS a1 hI ar (by decide) (by decide)).mono ?_);rintro e W2 ⟨y,rfl,hy,a6,a4⟩))
 have a7:ft W2 (W2.alloc (F #[J C x,J C y,H I,H I] 71)):=gG;have e3:=QO W2 (F #[J C x,J C y,H I,H I] 71);have a2:ft W1 (W1.alloc (F #[J C 0,J C 1,J C 2,J C 3] 3)):=gG;have a8:=(((af.trans a3).trans (a2.only [k])).trans a4).trans (a7.only [k]);have ae:=a6.more a7;have ap:=((a3.trans (a2.only [k])).trans a4).trans (a7.only [k]);have l2:=(blt e2)
 have e2:=(ap.block g2 l2 (by simpa using ab)).trans e2;have a5:W2.heap.size≠k:=by have:=a6.lt;omega
 have ah:w.heap.size<=W2.heap.size:=a6.fx.size;have av:W.heap.size<=W2.heap.size:=by have:=a8.size;have:=(af.trans ((a3.trans (a2.only [k])).trans a4)).size;omega
 have a0:g2≠W2.heap.size:=by have:=(a3.trans (a2.only [k])).size;have:=a4.size;omega
 have hb:=Dv y (by simpa using hy);generalize (W2.alloc _)=Y3 at e2 e3 a8 ae |-;obtain⟨g3,aq⟩:∃ g,W2.heap.size=g:=⟨_,rfl⟩
 rw[aq] at e3 a5 ah a0 av |-;clear aq a7 a2 ap a3 a4 ac a6 hI a1 ar af am l2;go_upto_region 3 with(go_at_call 103;(with_reducible refine(zgV ae 2 (by decide) (by decide)).mono ?_);rintro e W4 ⟨b1,rfl,ai,a9⟩;have e4:=(a9.block g3 (blt e3) (by simpa using a5)).trans e3;have e2:=(a9.block g2 (blt e2) (by simpa using ab)).trans e2;obtain⟨r0,r1,r2,r3,rf,rl⟩:=iJ e4);have o5:fw [g3] W4 (W4.setCell ⟨g3,2,D⟩ (H b1)):=(fw.refl [g3] W4).setCell (by simp) _;have e5:=zN e4 2 (H b1);have aj:=ai.only o5 (by simpa using a5.symm) (fun b hb=>by simp only[QN] at hb;omega);have an:=(a8.trans a9).then o5 (fun b hb=>.inr (by simp only[QN] at hb;omega));have e2:=(o5.block g2 (blt e2) (by simpa using a0)).trans e2;simp only[Tv,List.set_cons_zero,List.set_cons_succ] at e5;generalize (W4.setCell _ _)=W5 at e2 e5 aj an |-;clear o5 e4 r0 r1 r2 r3 rf rl ai a9 a8 ae;go_upto_region 4 with(go_at_call 103;(with_reducible refine(zgV aj 2 (by decide) (by decide)).mono ?_);rintro e W6 ⟨b2,rfl,ak,aa⟩;have e6:=(aa.block g3 (blt e5) (by simpa using a5)).trans e5;have e2:=(aa.block g2 (blt e2) (by simpa using ab)).trans e2;obtain⟨r0,r1,r2,r3,rf,rl⟩:=iJ e6);have o7:fw [g3] W6 (W6.setCell ⟨g3,3,D⟩ (H b2)):=(fw.refl [g3] W6).setCell (by simp) _;have e7:=zN e6 3 (H b2);have al:=ak.only o7 (by simpa using a5.symm) (fun b hb=>by simp only[QN] at hb;omega);have ao:=(an.trans aa).then o7 (fun b hb=>.inr (by simp only[QN] at hb;omega));have e2:=(o7.block g2 (blt e2) (by simpa using a0)).trans e2;simp only[Tv,List.set_cons_zero,List.set_cons_succ] at e7;generalize (W6.setCell _ _)=W7 at e2 e7 al ao |-;clear o7 e6 r0 r1 r2 r3 rf rl ak aa;obtain⟨r0,r1,r2,r3,rf,rl⟩:=iJ e7;obtain⟨s0,s1,s2,s3,sf,sl⟩:=iJ e2;go_wp2_with(fail);obtain⟨e8,o8⟩:=wb e2 (J C x) (J C y) (H b1) (H b2);obtain⟨t0,t1,t2,t3,_,_⟩:=iJ e8;refine QU (v:=.agg #[J C x,J C y,H b1,H b2]) (by simp[Rd,results69,go_sem,t0,t1,t2,t3]) rfl ?_;refine⟨⟨x,y,b1,b2⟩,rfl,?_,al.only o8 (by simpa using ab.symm) (fun b hb=>by simp only[QN] at hb;omega),ao.then o8 (fun b hb=>.inr (by simp only[QN] at hb;have:=au.out;omega))⟩;unfold jM;rw[Q4];exact⟨zu.2 ⟨by simp only;omega,by simp only;omega⟩,zu.2 hb.2⟩
end Go.Proofs.YthgbglbaemelhaaGreat
