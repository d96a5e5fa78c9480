/-
  PART.
-/
import Derived.Test.YtiihkapmggfjkaaGreatM32LawMakeDebug
import Derived.Test.YtiihkapmggfjkaaGreatM33LawMakeDebug
set_option linter.unusedVariables false
set_option linter.unusedSimpArgs false
set_option maxRecDepth 100000
set_option maxHeartbeats 8000000
namespace Go.Proofs.YtiihkapmggfjkaaGreat
open Value renaming slice->J,int->F,bool->X,string->G
open IntKind renaming i64->I,wrap->Ll
open Option renaming none->V,some->H
open Obj renaming cells->C
open Bool renaming false->U,true->M
open Go renaming World->N,results->Ly,Value->LA,Calls->LR,Addr->Mh,madeCells->Nm,yielded->NA
open World renaming cell?->Lg,frozen?->LD
open _root_.Int renaming toNat_natCast->Lw
open List renaming getElem?_cons_zero->Mf,length_singleton->Mj,replicate->Mz,getElem?_cons_succ->MV
open RowKit renaming intOf->Ml
open Region renaming Mode->Nz,wanted->MI,ready->MK,noSelect->ND,free->Oq
open Tryz
open Go.RowKit
variable {A Ac:K Mh}{W w:N}{a b out:Q Int}{c cc g i k l n:Nat}{e:TypeId}{its:Q fS}{p xs:Q fG}{x:fG}{y:Int}
def AJ (xs:Q fG)(w:N)(r:Ending)(w':N):Prop:=∃ A c S,r=.returned (J A xs.length c)/\Has (zM.sl 87) w' [J A xs.length c] xs S/\(∀ b∈S,w.heap.size<=b)/\fF w w'
theorem zpD (hx:(zM.sl 87).R w w.heap.size [J A xs.length c] xs)(hl:xs.length<=1099511627776)(hs:∀ x∈xs,x.fP.length<=1099511627776/\x.Expr.length<=1099511627776) :
  LR prog 219 #[J A xs.length c] w (AJ xs w):=by
 go_enter func219,ntmps219;go_wp2_with(fail);go_loopw [3,4] (fun z j wr=>∃(k:Nat) (A5:K Mh) (c5:Nat) (S:Q Nat),z=J A5 k c5/\j=F I k/\k<=xs.length/\Hid (fF w wr)/\Hid (Has (zM.sl 87) wr [J A5 k c5] (xs.take k) S)/\Hid (∀ b∈S,w.heap.size<=b)) (fun _ j _=>xs.length-(Ml j).toNat)
 case atStart=>exact⟨0,_,0,[w.heap.size],rfl,rfl,Lv _,fE gF,fE (Has.emp zM (zj (Lp _ _) gF)),fE (fun b hb=>by simp only[Lr] at hb;omega)⟩
 case round=>
  obtain⟨k,A5,c5,S,rfl,rfl,hk,hG,hH,hS⟩:=hrel;by_cases hlt:k<xs.length
  ·obtain⟨g,am,x,ab,af,ac,ag,rfl,aj,a1,x0,x1,x2,x3,b0,b1,h2,h3⟩:=jb hx hlt
   have a6:(k:Int)<(xs.length:Int):=by omega
   have x0:=za hG.out x0;have x1:=za hG.out x1;have x2:=za hG.out x2;have x3:=za hG.out x3;obtain⟨a7,a8⟩:=hs x (LP a1);have aa:Hid (xs.take k++[x]=xs.take (k+1)):=fE (by rw[ME,a1];rfl);clear a1;have u2:=h2;have u3:=h3;go_wp2_with(first | (go_at_call 236;(with_reducible refine(zod (x:=x) b0 b1 ((iH.sl 9).fO u2 hG.out (Lz _) |> fun h=>(iH.sl 9).iR h (fun _ _=>rfl) hG.out.size) ((iz.sl 159).fO u3 hG.out (Lz _) |> fun h=>(iz.sl 159).iR h (fun _ _=>rfl) hG.out.size) a7 a8).mono ?_);rintro e v2 ⟨ad,ah,ae,ai,SF,rfl,a4,a2,a0⟩) | (refine vA (L:=k+1) rfl (.tmp 12) (.tmp 18) AI (S:=S) (hH.out.fO (fF.trans (b:=_) gF (a0.trans gF))) (a4.fO gF) (fun b hb hm=>by have h1:=a2 b hm;have h2:=hH.out.lt b hb;omega) rfl rfl rfl (by intro j u hu;simpa[go_sem] using hu) rfl (by omega) (by omega) ?_;intro A8 c8 W8 S8 a9 a3 a5));go_roundw
   case measure=>exact gL
   case rel=>
    have al:=a0.size;have ak:=hG.out.size;refine⟨k+1,A8,c8,S8,rfl,by go_num,by omega,fE (a9.fO (hG.out.trans (a0.trans gF)) hS.out),fE (by rw[<-aa.out];exact a3),fE (fun b hb=>?_)⟩;rcases a5 b hb with h | h | h
    ·exact hS.out b h
    ·have:=a2 b h;omega
    ·(try simp at h);omega
  ·obtain rfl:k=xs.length:=by omega
   have a6:¬ ((xs.length:Int)<(xs.length:Int)):=by omega
   go_wp2_with(fail);refine Ln (v:=J A5 xs.length c5) (by simp[Ly,results219,go_sem]) rfl ⟨A5,c5,S,rfl,?_,hS.out,hG.out⟩;have h:=hH.out;rw[MJ] at h;exact h
theorem rH {g:Prop} (f:g:=by
  go_roundw
  exact⟨t+1,by go_num,by omega,fE (hGt.out.trans (fF.trans (b:=_) gF (hg2.trans gF))),HT2⟩
  exact gL):g:=f
theorem sm {g:Prop} (f:g:=by
  go_quiet (fail)
  go_wp2_with(fail)
  all_goals exact Ln (v:=X U) (by simp[Ly,results191,go_sem]) rfl ⟨by rw[HF2.out],hGt.out.trans (fF.trans (b:=_) gF (hg2.trans gF))⟩):g:=f
theorem zjb {L:Q D} {ts:Q gu} {AL AT:K Mh} {cL cT:Nat} (hx:(zM.sl 87).R w w.heap.size [J A xs.length c] xs)(hl:xs.length<=1099511627776)(hL:(iH.sl 9).R w w.heap.size [J AL L.length cL] L)(hLb:L.length<=8796093022208)(ht0:(iz.sl 159).R w w.heap.size [J AT ts.length cT] ts)(htl0:ts.length<=1099511627776) :
  LR prog 191 #[J A xs.length c,J AL L.length cL,J AT ts.length cT] w fun r w'=>r=.returned (X (zB xs L ts))/\fF w w':=by
 go_enter func191,ntmps191;go_wp2_with(fail);go_loopw [12] (fun j wt=>∃(t:Nat),j=F I t/\t<=ts.length/\Hid (fF w wt)/\Hid ((ts.drop t).all (zD xs L)=zB xs L ts)) (fun j _=>ts.length-(Ml j).toNat)
 case atStart=>exact⟨0,rfl,Lv _,fE gF,fE rfl⟩
 case round=>
  obtain⟨t,rfl,ht,hGt,hT⟩:=hrel;by_cases htl:t<ts.length
  ·obtain⟨g5,ah,y,ab,ac,a9,y0,y1,y2,yk,yn,ys⟩:=mj ht0 htl
   have HY:=fE a9;clear a9;subst ab;have w0:=za hGt.out y0;have w1:=za hGt.out y1;have w2:=za hGt.out y2;have ad:=Li ac hGt.out.size;have ag:(t:Int)<(ts.length:Int):=by omega
   by_cases k1:y.Kind=1
   ·have q1:(y.Kind == 1)=M:=LM.2 k1
    have q7:(y.Kind == 7)=U:=Lk.2 (by rw[k1];decide);rcases LH (jy L y.Name) with hh | hh
    ·have HC:Hid ((L.any fun z=>decide (z=y.Name))=M):=fE hh
     have HT2:Hid ((ts.drop (t+1)).all (zD xs L)=zB xs L ts):=fE (by rw[<-hT.out,oM HY.out,zD,Lu k1,hh];rfl);clear hh k1;go_wp2_with(first | (go_at_call 223;(with_reducible refine(uG (xs:=L) (Ty.up _ hL (hGt.out.trans gF)) hLb).mono ?_);rw[HC.out];rintro e2 v2 ⟨rfl,hg2⟩;obtain⟨a3,a4,a5,_⟩:=pA (zj (Lp wr (C #[F I y.Kind,F I y.gN,G y.Name] 159)) (fF.trans (b:=_) gF hg2))));exact rH
    ·have HC:Hid ((L.any fun z=>decide (z=y.Name))=U):=fE hh
     have a0:zD xs L y=U:=by rw[zD,Lu k1,hh]
     clear hh k1;have HF2:Hid (zB xs L ts=U):=fE (by rw[<-hT.out,oM HY.out,a0];rfl);clear a0;go_wp2_with(first | (go_at_call 223;(with_reducible refine(uG (xs:=L) (Ty.up _ hL (hGt.out.trans gF)) hLb).mono ?_);rw[HC.out];rintro e2 v2 ⟨rfl,hg2⟩;obtain⟨a3,a4,a5,_⟩:=pA (zj (Lp wr (C #[F I y.Kind,F I y.gN,G y.Name] 159)) (fF.trans (b:=_) gF hg2))))
     all_goals exact Ln (v:=X U) (by simp[Ly,results191,go_sem]) rfl ⟨by rw[HF2.out],hGt.out.trans (fF.trans (b:=_) gF (hg2.trans gF))⟩
   ·have q1:(y.Kind == 1)=U:=Lk.2 k1
    by_cases k7:y.Kind=7
    ·have q7:(y.Kind == 7)=M:=LM.2 k7
     rcases AW xs y.Name with a1 | ⟨f,z,a1,hz⟩
     ·have a2:=fE a1
      have a0:zD xs L y=U:=by rw[zD,Lt k1,Lu k7,a1];rfl
      clear a1 k1 k7;have HF2:Hid (zB xs L ts=U):=fE (by rw[<-hT.out,oM HY.out,a0];rfl);clear a0;go_wp2_with(first | (go_at_call 108;(with_reducible refine(zcL (Ty.up _ hx (hGt.out.trans gF)) hl).mono ?_);rw[a2.out];rintro e2 v2 ⟨rfl,hg2⟩;obtain⟨a3,a4,a5,_⟩:=pA (zj (Lp wr (C #[F I y.Kind,F I y.gN,G y.Name] 159)) (fF.trans (b:=_) gF hg2))));exact sm
     ·obtain⟨g6,ai,z',aj,al,ak,am,rfl,ae,a6,z0,z1,z2,z3,_⟩:=jb hx (Lh.1 hz).1
      obtain rfl:z'=z:=by rw[hz] at a6;injection a6 with h;exact h.symm
      have wz:=za hGt.out z2;have af:=Li ae hGt.out.size;have ao:f<xs.length:=(Lh.1 hz).1;have an:(f:Int)<(xs.length:Int):=by omega
      have a8:¬ ((f:Int)<0):=by omega
      have a2:=fE a1;by_cases har:(z'.fP.length:Int)=y.gN
      ·have a7:((z'.fP.length:Int) != y.gN)=U:=by rw[jZ,LN har];rfl
       have HT2:Hid ((ts.drop (t+1)).all (zD xs L)=zB xs L ts):=fE (by rw[<-hT.out,oM HY.out,zD,Lt k1,Lu k7,a1,Lt a8,Lw,hz];simp only;rw[LN har];rfl);clear a1 hz a6 k1 k7 har;go_wp2_with(first | (go_at_call 108;(with_reducible refine(zcL (Ty.up _ hx (hGt.out.trans gF)) hl).mono ?_);rw[a2.out];rintro e2 v2 ⟨rfl,hg2⟩;obtain⟨a3,a4,a5,_⟩:=pA (zj (Lp wr (C #[F I y.Kind,F I y.gN,G y.Name] 159)) (fF.trans (b:=_) gF hg2));have aa:=za (fF.trans (b:=_) gF hg2) wz));go_quiet (fail);go_wp2_with(fail);exact rH
      ·have a7:((z'.fP.length:Int) != y.gN)=M:=by rw[jZ,LK har];rfl
       have a0:zD xs L y=U:=by rw[zD,Lt k1,Lu k7,a1,Lt a8,Lw,hz];simp only;rw[LK har]
       clear a1 hz a6 k1 k7 har;have HF2:Hid (zB xs L ts=U):=fE (by rw[<-hT.out,oM HY.out,a0];rfl);clear a0;go_wp2_with(first | (go_at_call 108;(with_reducible refine(zcL (Ty.up _ hx (hGt.out.trans gF)) hl).mono ?_);rw[a2.out];rintro e2 v2 ⟨rfl,hg2⟩;obtain⟨a3,a4,a5,_⟩:=pA (zj (Lp wr (C #[F I y.Kind,F I y.gN,G y.Name] 159)) (fF.trans (b:=_) gF hg2));have aa:=za (fF.trans (b:=_) gF hg2) wz));exact sm
    ·have q7:(y.Kind == 7)=U:=Lk.2 k7
     have HT2:Hid ((ts.drop (t+1)).all (zD xs L)=zB xs L ts):=fE (by rw[<-hT.out,oM HY.out,zD,Lt k1,Lt k7];rfl);clear k1 k7;go_wp2_with(fail);go_roundw;exact⟨t+1,by go_num,by omega,fE (hGt.out.trans gF),HT2⟩;exact gL
  ·obtain rfl:t=ts.length:=by omega
   have ag:¬ ((ts.length:Int)<(ts.length:Int)):=by omega
   have HF2:Hid (zB xs L ts=M):=fE (by rw[<-hT.out,LY];rfl);go_wp2_with(fail);exact Ln (v:=X M) (by simp[Ly,results191,go_sem]) rfl ⟨by rw[HF2.out],hGt.out.trans gF⟩
theorem uH {b:gC}:LR prog 42 #[.agg #[F I b.Frames,F I b.Inline,X b.Fold,X b.Split]] w fun r w'=>r=.returned (X (jG b))/\fF w w':=by
 go_enter func42,ntmps42;go_wp2_with(first | (go_at_call 43;(with_reducible refine(jr _ _ _ _).mono ?_);rintro e w1 ⟨rfl,rfl⟩))
 all_goals
  go_ret
  refine⟨zy ?_,gG⟩
  unfold jG
  simp_all
theorem wh {b:gC}:LR prog 32 #[.agg #[F I b.Frames,F I b.Inline,X b.Fold,X b.Split]] w fun r w'=>r=.returned (X (jG b))/\fF w w':=by
 go_enter func32,ntmps32;go_wp2_with(first | (go_at_call 33;(with_reducible refine(lj _ _ _ _).mono ?_);rintro e w1 ⟨rfl,rfl⟩))
 all_goals
  go_ret
  refine⟨zy ?_,gG⟩
  unfold jG
  simp_all
structure pa (p:Q fG)(x:fQ):Prop where
 line:0<=x.Item.fN/\x.Item.fN<p.length
 chain:x.Item.fH.length<=3
 off:0<=x.Offset/\x.Offset<=100000
theorem Ft (st:Q Int)(j:Nat)(y:fS):(lf st j y).Item.fH=y.fH:=by
 unfold lf;split <;> rfl
theorem GB {a:Int} (hI:iJ p its)(ha:0<=a)(hb:a+5*(its.length:Int)<=100000):∀ x∈jD its a,pa p x:=by
 intro x hx;obtain⟨j,hj⟩:=NZ hx;obtain⟨y,hy,rfl⟩:=ya hj;have a0:=(Lh.1 hy).1;have h:=hI j y hy;have h1:=Aa (l:=its) (a:=a) (j:=j) (by omega);refine⟨by rw[(ti _ _ _).1];exact h.line,by rw[Ft];exact h.chain.1,?_⟩;show 0<=(jR its a).getD j 0/\(jR its a).getD j 0<=100000;omega
theorem Fu {a:Int} (hI:iJ p its):∀ x,(jD its a)[0]?=H x->oO p x:=by
 intro x hx;obtain⟨y,hy,rfl⟩:=ya hx;have:=(hI 0 y hy).first.1 rfl;unfold oO;rw[(ti _ _ _).1,(ti _ _ _).2];exact this
theorem xD {p:Q fG}{b:gC}{image:Int}(hp:zs p=M)(hb:jG b=M):∀(n f:Nat)(a:Int),f+n<=(zk p).length->0<=a->a<=12000*(f:Int)->(∀ x∈l0 p b image n f a,pa p x)/\(l0 p b image n f a).length<=2400*n/\∀ x,(l0 p b image n f a)[0]?=H x->oO p x
 | 0,f,a,_,_,_=>⟨fun x h=>(by cases h),by simp[l0],fun x h=>by simp[l0] at h⟩
 | n+1,f,a,hf,ha,hb1=>by
  have a0:=(nt hp).ki;obtain⟨h1,h2,h3⟩:=uC (f:=f) hp hb (by omega);have he:=Cg (jY p b f) a;simp only[l0];split
  ·obtain⟨g1,g2,_⟩:=xD (image:=image) hp hb n (f+1) (kF (jY p b f) a) (by omega) (by omega) (by omega)
   have hl:(jD (jY p b f) a).length=(jY p b f).length:=by unfold jD;rw[xE]
   refine⟨fun x hx=>?_,by rw[Lj];omega,fun x hx=>?_⟩
   ·rcases LG.1 hx with hx | hx
    ·exact GB h1 ha (by omega) x hx
    ·exact g1 x hx
   ·rw[Md (by omega)] at hx
    exact Fu h1 x hx
  ·obtain⟨g1,g2,g3⟩:=xD (image:=image) hp hb n (f+1) a (by omega) ha (by omega)
   exact⟨g1,by omega,g3⟩
theorem vO (p:Q fG)(b:gC)(image:Int):(∀ x∈zK p b image,pa p x)/\(zK p b image).length<=14400/\∀ x,(zK p b image)[0]?=H x->oO p x:=by
 unfold zK;split
 ·rename_i h
  obtain⟨h1,h2,h3⟩:=xD (image:=image) h.1 h.2.1 (zk p).length 0 0 (by omega) (by omega) (by omega);have a0:=(nt h.1).ki;exact⟨h1,by omega,h3⟩
 ·exact⟨fun x h=>(by cases h),Lv _,fun x h=>by simp at h⟩
def kW (p:Q fG)(xs:Q fQ)(k:Nat):jL:=(xs.take k).foldl (ov p) ⟨emp,[]⟩
theorem yu {xs:Q fQ} {x:fQ} (h:xs[k]?=H x):kW p xs (k+1)=ov p (kW p xs k) x:=by
 unfold kW;rw[ME,h];simp
theorem yR (x:mV):(jE x).size<=5:=by
 unfold jE;split
 ·have:=tH x.Code
  show ((nR x.Code::nK x.Arg (jw x.Code).1 0).toArray).size<=_;simp[xX];omega
 ·exact Lv _
theorem ye (l:Q gk)(n:Int):(qt l n).length=l.length:=by
 unfold qt;cases h:l.getLast? with
 | none=>rfl
 | some x=>
  have:l≠[]:=by intro e;subst e;simp at h
  have hl:0<l.length:=List.length_pos_iff.2 this;simp;omega
theorem ui {p:Q fG}{xs:Q fQ}(hf:∀ x,xs[0]?=H x->oO p x):∀ k,k<=xs.length->(kW p xs k).Code.size<=5*k/\(kW p xs k).fM.length<=k/\(0<k->0<(kW p xs k).fM.length)
 | 0,_=>⟨Lv _,Lv _,fun h=>by omega⟩
 | k+1,h=>by
  obtain⟨h1,h2,h3⟩:=ui hf k (by omega);have hx:xs[k]?=H xs[k]:=Lo (by omega);rw[yu hx];have he:=yR xs[k].Item.Op;unfold ov;simp only[ye];refine⟨by rw[Na];omega,?_,fun _=>?_⟩
  ·split
   ·rw[Lj,Mj];omega
   ·omega
  ·split
   ·rw[Lj,Mj];omega
   ·rename_i hn
    cases k with
    | zero=>exact absurd (hf _ hx) hn
    | succ k=>exact h3 (by omega)
theorem lM {o0 o1:LA} (h:W.heap[g]?=H (C #[o0,o1] e (0,0))) :
  Lg W ⟨g,0,V⟩=H o0/\Lg W ⟨g,1,V⟩=H o1/\(∀ j,LD W ⟨g,j,V⟩=U)/\g<W.heap.size:=by
 refine⟨?_,?_,fun j=>by simp[LD,h],(blt h)⟩
 all_goals
  rw[MD W g _ _ _ (0,0) h]
  rfl
def vm (i:jL)(w:N)(r:Ending)(w':N):Prop:=∃ A c S,r=.returned (.agg #[G i.Code,J A i.fM.length c])/\Has (jU.sl 110) w' [J A i.fM.length c] i.fM S/\(∀ b∈S,w.heap.size<=b)/\fF w w'
theorem fX.more {P:Program}{ops:Array Oper}{Ld:Exit->Act->N->Prop}{md:Nz}{S S':N->Prop}{m:Nat}(hss:∀ w,S' w->S w):∀{f:Nat}{listed:Array Bool}{a:Act}{w:N},fX P md ops Ld S' m f listed a w->fX P md ops Ld S m f listed a w
 | 0,_,_,_,h=>h
 | _+1,_,_,_,h=>⟨h.1,fun i hi=>wpOp_mono (fun _ _ h'=>⟨fun hn=>hss _ (h'.1 hn),fX.more hss h'.2⟩) (h.2 i hi)⟩
theorem Fl (h:xs[i]?=H x)(hi:i<=k)(s:D):nr (xs.drop i) (k+1-i) s=nr (xs.drop (i+1)) (k+1-(i+1)) (if x.Kind=0 then x.Name else s):=by
 obtain⟨h1,rfl⟩:=Lh.1 h;rw[LI h1,show k+1-i=k+1-(i+1)+1 from by omega];rfl
theorem xW {k:Int} (h:¬ (0<=k/\k<p.length)):lp p k=emp:=Lt h
theorem BE (h:k<p.length):lp p (k:Int)=nr p (k+1) emp:=by
 unfold lp;rw[Lu ⟨by omega,by omega⟩];rfl
theorem rX {g:Prop} (f:g:=by
  go_enter func183,ntmps183
  go_wp2_with(fail)
  go_loopw [5,6] (fun z j wr=>z=G emp/\j=F I 0/\Hid (fF w wr)) (fun _ j _=>0)
  case atStart=>exact⟨rfl,rfl,fE gF⟩
  case round=>
   obtain⟨rfl,rfl,hG⟩:=hrel
   go_wp2_with(fail)
   go_ret
   exact⟨ua HL.out.symm,hG.out⟩):g:=f
theorem zj4 {k:Int} (hx:(zM.sl 87).R w w.heap.size [J A p.length c] p)(hl:p.length<=1000000) :
  LR prog 183 #[J A p.length c,F I k] w fun e w'=>e=.returned (G (lp p k))/\fF w w':=by
 by_cases hk0:0<=k
 ·by_cases hkl:k<p.length
  ·obtain⟨n,rfl⟩:=M1 hk0
   have a5:n<p.length:=by omega
   have HL:=fE (BE a5);go_enter func183,ntmps183;go_wp2_with(fail);go_loopw [5,6] (fun z j wr=>∃(i:Nat) (s:D),z=G s/\j=F I i/\i<=n+1/\Hid (fF w wr)/\Hid (nr (p.drop i) (n+1-i) s=lp p n)) (fun _ j _=>n+1-(Ml j).toNat)
   case atStart=>exact⟨0,_,rfl,rfl,Lv _,fE gF,fE HL.out.symm⟩
   case round=>
    obtain⟨i,s,rfl,rfl,hi,hG,hN⟩:=hrel;by_cases hle:i<=n
    ·have a4:i<p.length:=by omega
     obtain⟨g,ad,x,a6,a8,a7,a9,rfl,aa,a0,x0,x1,x2,x3,b0,b1,_⟩:=jb hx a4;have a2:(i:Int)<=(n:Int):=by omega
     have ab:(i:Int)<(p.length:Int):=by omega
     have ac:Ll I ((i:Int)+1)=(i:Int)+1:=iw;have x0:=za hG.out x0;have x1:=za hG.out x1;have HA:=fE (Fl a0 hle s);clear a0;by_cases h0:x.Kind=0
     ·have a1:(x.Kind == 0)=M:=LM.2 h0
      have HS:Hid ((if x.Kind=0 then x.Name else s)=x.Name):=fE (Lu h0);clear h0;go_wp2_with(fail);go_roundw;exact⟨i+1,x.Name,rfl,by go_num,by omega,hG,fE (by rw[<-hN.out,HA.out,HS.out])⟩;exact gL
     ·have a1:(x.Kind == 0)=U:=Lk.2 h0
      have HS:Hid ((if x.Kind=0 then x.Name else s)=s):=fE (Lt h0);clear h0;go_wp2_with(fail);go_roundw;exact⟨i+1,s,rfl,by go_num,by omega,hG,fE (by rw[<-hN.out,HA.out,HS.out])⟩;exact gL
    ·obtain rfl:i=n+1:=by omega
     have a2:¬ ((n:Int)+1<=(n:Int)):=by omega
     have a3:¬ (((n+1:Nat):Int)<=(n:Int)):=by omega
     have HE:Hid (s=lp p n):=fE (by rw[<-hN.out,Mq];cases p.drop (n+1) <;> rfl);go_wp2_with(fail);go_ret;exact⟨ua HE.out,hG.out⟩
  ·have HL:Hid (lp p k=emp):=fE (xW (fun h=>hkl h.2))
   exact rX
 ·have HL:Hid (lp p k=emp):=fE (xW (fun h=>hk0 h.1))
  exact rX
def oY (a b:Q Int)(n:Nat):Bool:=decide (n<=a.length) && (decide (n<=b.length) && decide (a.take n=b.take n))
theorem I2 {x:Int} (h:a.take i=b.take i)(ha:a[i]?=H x)(hb:b[i]?=H x):a.take (i+1)=b.take (i+1):=by
 rw[ME,ME,ha,hb,h]
theorem I3 {x:Int} (ha:a[i]?=H x)(hb:b[i]?=H y)(hn:i<n)(h:x≠y):a.take n≠b.take n:=by
 intro he;have h1:=MY (fun l=>l[i]?) he;simp only[Nc,hn,Nx,ha,hb] at h1;injection h1 with h1
 exact h h1
theorem zs7 {B:K Mh} {d:Nat} (hx:(zF.sl 3).R w w.heap.size [J A a.length c] a)(hy:(zF.sl 3).R w w.heap.size [J B b.length d] b)(hn:n<=1000000) :
  LR prog 102 #[J A a.length c,J B b.length d,F I n] w fun e w'=>e=.returned (X (oY a b n))/\fF w w':=by
 by_cases ha:n<=a.length
 ·have a2:¬ ((a.length:Int)<(n:Int)):=by omega
  by_cases hb:n<=b.length
  ·have a3:¬ ((b.length:Int)<(n:Int)):=by omega
   have HS:Hid (oY a b n=decide (a.take n=b.take n)):=fE (by unfold oY;simp[ha,hb]);go_enter func102,ntmps102;go_wp2_with(fail);go_loopw [7] (fun j wr=>∃ i:Nat,j=F I i/\i<=n/\Hid (fF w wr)/\Hid (a.take i=b.take i)) (fun j _=>n-(Ml j).toNat)
   case atStart=>exact⟨0,rfl,Lv _,fE gF,fE rfl⟩
   case round=>
    obtain⟨i,rfl,hi,hG,hT⟩:=hrel;by_cases hlt:i<n
    ·obtain⟨ga,oa,x,rfl,a0,xa,_⟩:=lR hx (Li hlt ha)
     obtain⟨gb,ob,y,rfl,a1,yb,_⟩:=lR hy (Li hlt hb);have a4:(i:Int)<(n:Int):=by omega
     have a6:(i:Int)<(a.length:Int):=by omega
     have a7:(i:Int)<(b.length:Int):=by omega
     have a8:Ll I ((i:Int)+1)=(i:Int)+1:=iw;have xa:=za hG.out xa;have yb:=za hG.out yb;by_cases he:x=y
     ·have a5:(x != y)=U:=by simp[he]
      have HT:Hid (a.take (i+1)=b.take (i+1)):=fE (I2 hT.out a0 (by rw[he];exact a1));clear he a0 a1;go_wp2_with(fail);go_quiet (fail);go_wp2_with(fail);go_roundw;exact⟨i+1,by go_num,by omega,fE (hG.out.trans gF),HT⟩;exact gL
     ·have a5:(x != y)=M:=by simp[he]
      have HT:Hid (oY a b n=U):=fE (by rw[HS.out,LK (I3 a0 a1 hlt he)]);clear he a0 a1;go_wp2_with(fail);go_quiet (fail);go_wp2_with(fail);go_ret;exact⟨zy HT.out.symm,hG.out.trans gF⟩
    ·obtain rfl:i=n:=by omega
     have a4:¬ ((i:Int)<(i:Int)):=by omega
     have HT:Hid (oY a b i=M):=fE (by rw[HS.out,LN hT.out]);go_wp2_with(fail);go_ret;exact⟨zy HT.out.symm,hG.out⟩
  ·have a3:(b.length:Int)<(n:Int):=by omega
   have HS:Hid (oY a b n=U):=fE (by unfold oY;simp[hb]);go_enter func102,ntmps102;go_wp2_with(fail);go_ret;exact⟨zy HS.out.symm,gG⟩
 ·have a2:(a.length:Int)<(n:Int):=by omega
  have HS:Hid (oY a b n=U):=fE (by unfold oY;simp[ha]);go_enter func102,ntmps102;go_wp2_with(fail);go_ret;exact⟨zy HS.out.symm,gG⟩
theorem Gd {x:fS} (h:x.fH[l+1]?=H y):zN p x l=lp p y:=by
 unfold zN;rw[Lu (Lh.1 h).1,Mp,h];rfl
theorem Fk {x:fS} (h:¬ l+1<x.fH.length):zN p x l=lp p x.fN:=Lt h
theorem zf5 {x:fQ} {A5:K Mh} {c5:Nat} (hx:(zM.sl 87).R w w.heap.size [J A p.length c] p)(hl:p.length<=1000000)(hc:(zF.sl 3).R w w.heap.size [J A5 x.Item.fH.length c5] x.Item.fH)(hll:l<=1000) :
  LR prog 101 #[J A p.length c,.agg #[F I x.Offset,F I x.Item.Op.Code,F I x.Item.Op.Arg,F I x.Item.fN,X x.Item.Start,J A5 x.Item.fH.length c5,F I x.Item.fK,X x.Item.fI],F I l] w fun e w'=>e=.returned (G (zN p x.Item l))/\fF w w':=by
 have a6:Ll I ((l:Int)+1)=(l:Int)+1:=iw;by_cases h:l+1<x.Item.fH.length
 ·obtain⟨gc,oc,y,rfl,a2,yc,_⟩:=lR hc h
  have a3:=MM _ _ yc;simp only at a3;have a4:(x.Item.fH.length:Int) > (l:Int)+1:=by omega
  have a1:(l:Int)+1<(x.Item.fH.length:Int):=by omega
  have a5:((l:Int)+1).toNat=l+1:=by omega
  have HN:=fE (Gd (p:=p) a2);clear a2;go_enter func101,ntmps101;go_wp2_with(first | (go_at_call 183;(with_reducible refine(zj4 (k:=y) (Ty.up _ hx gF) hl).mono ?_);rw[<-HN.out];rintro e w1 ⟨rfl,a0⟩));go_ret;exact⟨rfl,fF.trans (b:=_) gF a0⟩
 ·have a4:¬ ((x.Item.fH.length:Int) > (l:Int)+1):=by omega
  have a1:¬ ((l:Int)+1<(x.Item.fH.length:Int)):=by omega
  have HN:=fE (Fk (p:=p) h);go_enter func101,ntmps101;go_wp2_with(first | (go_at_call 183;(with_reducible refine(zj4 (k:=x.Item.fN) (Ty.up _ hx gF) hl).mono ?_);rw[<-HN.out];rintro e w1 ⟨rfl,a0⟩));go_ret;exact⟨rfl,fF.trans (b:=_) gF a0⟩
structure kY (p:Q fG)(k:Nat)(out:Q Int):Prop where
 len:out.length=p.length
 ends:∀ a e:Nat,a<k->gg p a e->out[e]?=H (a:Int)
 np:∀ a l:Nat,a<k->zx p a=(l:Int)->out[l]?=H (a:Int)
theorem yB {a:Nat} (h:zx p a=(l:Int)):ir p a l:=by
 rcases nI p a with h1 | ⟨j,h1,h2⟩
 ·omega
 ·obtain rfl:j=l:=by omega
  exact h2
theorem ir.AR {a:Nat} (h:ir p a l):l<p.length:=by
 obtain⟨x,hx,_⟩:=h.np;exact(Lh.1 hx).1
theorem DM {a b:Nat} (h:gg p a l)(h':ir p b l):False:=by
 obtain⟨x,hx,h7⟩:=h.last;obtain⟨y,hy,h4⟩:=h'.np;rw[hx] at hy;injection hy with hy
 rw[hy,h4] at h7;cases h7
theorem kY.start (h:out.length=p.length):kY p 0 out:=⟨h,fun _ _ h=>by omega,fun _ _ h=>by omega⟩
structure n9 (p:Q fG)(k:Nat)(out:Q Int):Prop where
 ok:kY p k out
 end_:∀ e:Nat,gg p k e->out[e]?=H (k:Int)
theorem kY.wY {e:Nat} (h:kY p k out)(he:gg p k e):n9 p k (out.set e (k:Int)):=by
 have hl:e<out.length:=by rw[h.len];exact he.len
 refine⟨⟨by rw[Ma];exact h.len,fun a e' ha hE=>?_,fun a l ha hE=>?_⟩,fun e' hE=>?_⟩
 ·have a0:e≠e':=fun hh=>by subst hh;have:=he.same hE;omega
  rw[M5 a0];exact h.ends a e' ha hE
 ·have a0:e≠l:=fun hh=>by subst hh;exact DM he (yB hE)
  rw[M5 a0];exact h.np a l ha hE
 ·obtain rfl:=he.uniq hE
  rw[MP hl]
theorem kY.EM (h:kY p k out)(he:zJ p k = -1):n9 p k out:=
 ⟨h,fun e hE=>by have:=hE.iy;omega⟩
theorem n9.wZ (h:n9 p k out)(hl:zx p k=(l:Int)):kY p (k+1) (out.set l (k:Int)):=by
 have hL:=yB hl;have a1:l<out.length:=by rw[h.ok.len];exact hL.AR
 refine⟨by rw[Ma];exact h.ok.len,fun a e ha hE=>?_,fun a j ha hE=>?_⟩
 ·have a0:l≠e:=fun hh=>by subst hh;exact DM hE hL
  rw[M5 a0];by_cases hak:a=k
  ·subst hak;exact h.end_ e hE
  ·exact h.ok.ends a e (by omega) hE
 ·by_cases hak:a=k
  ·subst hak
   have:j=l:=by omega
   subst this;rw[MP a1]
  ·have a0:l≠j:=fun hh=>by subst hh;have:=(yB hE).same hL;omega
   rw[M5 a0];exact h.ok.np a j (by omega) hE
theorem n9.AS (h:n9 p k out)(hl:zx p k = -1):kY p (k+1) out:=by
 refine⟨h.ok.len,fun a e ha hE=>?_,fun a j ha hE=>?_⟩
 ·by_cases hak:a=k
  ·subst hak;exact h.end_ e hE
  ·exact h.ok.ends a e (by omega) hE
 ·by_cases hak:a=k
  ·subst hak;omega
  ·exact h.ok.np a j (by omega) hE
theorem yP {xs:Q Int} {S:Q Nat} (h:Has (zF.sl e) W [J A n c] xs S)(hk:k<xs.length) :
  ∃ g,A=H ⟨g,0,V⟩/\g∈S/\g<W.heap.size/\(∀ j,LD W ⟨g,j,V⟩=U)/\(∃ v,Lg W ⟨g,k,V⟩=H (F I v)/\xs[k]?=H v)/\
   ∀ u,fV u->Has (zF.sl e) (W.setCell ⟨g,k,V⟩ (F I u)) [J A n c] (xs.set k u) S/\fJ S W (W.setCell ⟨g,k,V⟩ (F I u)):=by
 have a2:xs[k]?=H xs[k]:=Lo hk;obtain⟨g,el,a5,rfl,a3,a4,_,_,_,hO,hf,hc,a0,_⟩:=mN h.1 h.2 a2;obtain⟨rfl,b1,b2,rfl⟩:=hO;have a1:=hc 0 _ rfl;rw[show k*zF.size+0=k from by show k*1+0=k;omega] at a1;refine⟨g,rfl,a3,a4,hf,⟨_,a1,a2⟩,fun u hu=>?_⟩;have hp:=a0 0 (F I u) u (by decide) rfl ⟨rfl,hu.1,hu.2,rfl⟩;rw[show k*zF.size+0=k from by show k*1+0=k;omega] at hp;exact⟨⟨hp.1,h.2⟩,hp.2⟩
def J9 (p:Q fG)(w:N)(r:Ending)(w':N):Prop:=∃ out A c S,r=.returned (J A p.length c)/\kY p p.length out/\Has (zF.sl 3) w' [J A p.length c] out S/\(∀ b∈S,w.heap.size<=b)/\fF w w'
theorem Im:(prog.info? 3).map (fun i=>(i.zero,i.size,i.bytes))=H (H (F I 0),1,8):=by kernel_rfl
theorem BX (w:N):∀ n,Rows zF w (Mz n (F I 0)) (Mz n 0) []
 | 0=>⟨rfl,rfl⟩
 | n+1=>by
  rw[List.replicate_succ,List.replicate_succ];exact⟨[F I 0],Mz n (F I 0),[],[],rfl,rfl,⟨rfl,by decide,by decide,rfl⟩,BX w n⟩
theorem GW (n:Nat):(Nm #[F I 0] n).toList=Mz n (F I 0):=by
 apply List.ext_getElem
 ·simp[Nm]
 ·intro i h1 h2
  simp[Nm,Nat.mod_one]
theorem Hp (hg:W.heap[g]?=H (C (Nm #[F I 0] n) 3 (0,0)))(hn:n<=9223372036854775807):Has (zF.sl 3) W [J (H ⟨g,0,V⟩) n n] (Mz n 0) [g]:=by
 have h:=qq (T:=zF) (xs:=Mz n (0:Int)) (S:=[]) hg (by rw[GW];exact BX W n) (by rw[Oa];exact hn);rw[Oa] at h;exact⟨h,by simp⟩
theorem zrt (hx:(zM.sl 87).R w w.heap.size [J A xs.length c] xs)(hl:xs.length<=1000000) :
  LR prog 260 #[J A xs.length c] w (J9 xs w):=by
 obtain⟨i0,hi,am,an,ao⟩:=Nf Im;have ah:=uy (P:=prog) 45 3 i0 _ underlying45 hi am I I xs.length xs.length (Lz _) (by rw[ao];omega) (by omega);rw[an,Og] at ah;have ai:∀ w:N,(Instr.makeSlice 45 (F I (xs.length:Int)) (F I (xs.length:Int))).run prog w=.ok (J (H ⟨w.heap.size,0,V⟩) xs.length xs.length) (w.alloc (C (Nm #[F I 0] xs.length) 3)):=fun w=>ah w;clear am an ao hi ah;have a7:xs.length<=1099511627776:=by omega
 go_enter func260,ntmps260;go_wp2_with(fail);go_loopw [12] (fun z wr=>∃(k:Nat) (out:Q Int),z=F I k/\k<=xs.length/\Hid (kY xs k out)/\Hid (fF w wr)/\Hid (Has (zF.sl 3) wr [J (H ⟨w.heap.size,0,V⟩) xs.length xs.length] out [w.heap.size])) (fun z _=>xs.length-(Ml z).toNat)
 case atStart=>exact⟨0,Mz xs.length 0,rfl,Lv _,fE (kY.start (by simp)),fE gF,fE ((Hp (Lp _ _) (by omega)).fO gF)⟩
 case round=>
  obtain⟨k,out,rfl,hk,hO,hG,hH⟩:=hrel;clear ai;by_cases hlt:k<xs.length
  ·have az:(k:Int)<(xs.length:Int):=by omega
   have af:=hO.out.len;rcases pQ xs k with⟨he,_⟩ | ⟨e,he,a0⟩
   ·have HE:=fE he
    have ae:=fE (hO.out.EM he);rcases nI xs k with a1 | ⟨l,a1,hE⟩
    ·have HL:=fE a1
     have a9:=fE (ae.out.AS a1);clear he a1 af;go_wp2_with(first | (go_at_call 107;(with_reducible refine(za2 (Ty.up _ hx (hG.out.trans gF)) a7).mono ?_);rw[HE.out];rintro e2 v2 ⟨rfl,a4⟩) | (go_at_call 110;(with_reducible refine(zhq (Ty.up _ hx (hG.out.trans (fF.trans (b:=_) gF (a4.trans gF)))) a7).mono ?_);rw[HL.out];rintro e3 v3 ⟨rfl,a5⟩));go_roundw;exact⟨k+1,out,by go_num,by omega,a9,fE (fF.trans (b:=_) hG.out (fF.trans (b:=_) gF (a4.trans (fF.trans (b:=_) gF (a5.trans gF))))),fE (hH.out.fO (fF.trans (b:=_) gF (a4.trans (fF.trans (b:=_) gF (a5.trans gF)))))⟩;exact gL
    ·exfalso
     obtain⟨e,h1,_⟩:=hE.iX;have:=h1.iy;omega
   ·have HE:=fE he
    have ae:=fE (hO.out.wY a0);have aD:=a0.len;have aE:e<out.length:=by omega
    have aC:(e:Int)<(xs.length:Int):=by omega
    have aB:(e:Int)≥0:=by omega
    rcases nI xs k with a1 | ⟨l,a1,hE⟩
    ·have HL:=fE a1
     have a9:=fE (ae.out.AS a1);clear he a1 a0;go_wp2_with(first | (go_at_call 107;(with_reducible refine(za2 (Ty.up _ hx (hG.out.trans gF)) a7).mono ?_);rw[HE.out];rintro e2 v2 ⟨rfl,a4⟩;have ac:=hG.out.trans (fF.trans (b:=_) gF a4);obtain⟨gO,ab,_,ax,av,⟨vv,ar,_⟩,a3⟩:=yP (hH.out.fO (fF.trans (b:=_) gF a4)) (k:=e) (by rw[af];omega);obtain rfl:gO=w.heap.size:=(MY Addr.block (M0 ab)).symm;obtain⟨aa,a2⟩:=a3 (k:Int) ⟨by omega,by omega⟩;have ag:=fE aa;have a8:=fE (a2.fO ac (fun b hb=>by simp at hb;omega));clear aa a2 a3 ac ab) | (go_at_call 110;(with_reducible refine(zhq (Ty.up _ hx (a8.out.trans gF)) a7).mono ?_);rw[HL.out];rintro e3 v3 ⟨rfl,a5⟩));go_roundw;exact⟨k+1,out.set e (k:Int),by go_num,by omega,a9,fE (fF.trans (b:=_) a8.out (fF.trans (b:=_) gF (a5.trans gF))),fE (ag.out.fO (fF.trans (b:=_) gF (a5.trans gF)))⟩;exact gL
    ·have HL:=fE a1
     have a9:=fE (ae.out.wZ a1);have aA:=hE.AR;have aG:(l:Int)<(xs.length:Int):=by omega
     have aF:(l:Int)≥0:=by omega
     clear he a1 a0 hE;go_wp2_with(first | (go_at_call 107;(with_reducible refine(za2 (Ty.up _ hx (hG.out.trans gF)) a7).mono ?_);rw[HE.out];rintro e2 v2 ⟨rfl,a4⟩;have ac:=hG.out.trans (fF.trans (b:=_) gF a4);obtain⟨gO,ab,_,ax,av,⟨vv,ar,_⟩,a3⟩:=yP (hH.out.fO (fF.trans (b:=_) gF a4)) (k:=e) (by rw[af];omega);obtain rfl:gO=w.heap.size:=(MY Addr.block (M0 ab)).symm;obtain⟨aa,a2⟩:=a3 (k:Int) ⟨by omega,by omega⟩;have ag:=fE aa;have a8:=fE (a2.fO ac (fun b hb=>by simp at hb;omega));clear aa a2 a3 ac ab) | (go_at_call 110;(with_reducible refine(zhq (Ty.up _ hx (a8.out.trans gF)) a7).mono ?_);rw[HL.out];rintro e3 v3 ⟨rfl,a5⟩;have al:=a8.out.trans (fF.trans (b:=_) gF a5);obtain⟨gP,ak,_,ay,aw,⟨aH,au,_⟩,a6⟩:=yP (ag.out.fO (fF.trans (b:=_) gF a5)) (k:=l) (by rw[Ma,af];exact aA);obtain rfl:gP=w.heap.size:=(MY Addr.block (M0 ak)).symm;obtain⟨aj,ad⟩:=a6 (k:Int) ⟨by omega,by omega⟩;have aq:=fE aj;have ap:=fE (ad.fO al (fun b hb=>by simp at hb;omega));clear aj ad a6 al ak));go_roundw;exact⟨k+1,(out.set e (k:Int)).set l (k:Int),by go_num,by omega,a9,fE (fF.trans (b:=_) ap.out gF),fE (aq.out.fO gF)⟩;exact gL
  ·obtain rfl:k=xs.length:=by omega
   have az:¬ ((xs.length:Int)<(xs.length:Int)):=by omega
   go_wp2_with(fail);exact Ln (v:=J (H ⟨w.heap.size,0,V⟩) xs.length xs.length) (by simp[Ly,results260,go_sem]) rfl ⟨out,_,_,_,rfl,hO.out,hH.out.fO gF,fun b hb=>by simp at hb;omega,hG.out.trans gF⟩
theorem xh (l:Q fG)(s:D):nr l 0 s=s:=by cases l <;> rfl
theorem AY:∀(n:Nat)(l:Q fG)(s:D)(x:fG),l[n]?=H x->nr l (n+1) s=if x.Kind=0 then x.Name else nr l n s
 | _,[],_,_,h=>by simp at h
 | 0,y::r,s,x,h=>by
  simp only[Mf,Mg] at h;subst h;show nr r 0 (if y.Kind=0 then y.Name else s)=_;rw[xh,xh]
 | n+1,y::r,s,x,h=>by
  simp only[MV] at h;show nr r (n+1) (if y.Kind=0 then y.Name else s)=if x.Kind=0 then x.Name else nr r n (if y.Kind=0 then y.Name else s)
  exact AY n r _ x h
theorem zj3 {k:Int} (hx:(zM.sl 87).R w w.heap.size [J A p.length c] p)(hl:p.length<=1000000) :
  LR prog 198 #[J A p.length c,F I k] w fun e w'=>e=.returned (G (lp p k))/\fF w w':=by
 have ad:Ll I ((p.length:Int)-1)=(p.length:Int)-1:=iw;rcases LH (gW k 0 ((p.length:Int)-1)) with hb | hb
 ·have a2:=zX.1 hb
  obtain⟨n,rfl⟩:=M1 a2.1;have a5:n<p.length:=by omega
  have HL:=fE (BE a5);have HB:=fE hb;clear hb;go_enter func198,ntmps198;go_wp2_with(first | (go_at_call 43;(with_reducible refine(jr _ _ _ _).mono ?_);rw[HB.out];rintro e wb ⟨rfl,rfl⟩));go_loopw [1] (fun z wr=>∃(j:Nat) (zi:Int),z=F I zi/\zi+1=(j:Int)/\j<=n+1/\Hid (fF w wr)/\Hid (nr p j emp=lp p n)) (fun z _=>(Ml z+1).toNat)
  case atStart=>exact⟨n+1,(n:Int),rfl,by omega,Lz _,fE gF,fE HL.out.symm⟩
  case round=>
   obtain⟨j,zi,rfl,ae,hj,hG,hN⟩:=hrel;by_cases hz0:0<=zi
   ·obtain⟨i,rfl⟩:=M1 hz0
    obtain rfl:j=i+1:=by omega
    have a4:i<p.length:=by omega
    obtain⟨g,af,x,a6,a8,a7,a9,rfl,aa,a0,x0,x1,x2,x3,b0,b1,_⟩:=jb hx a4;have a3:(i:Int)≥0:=hz0;have ab:(i:Int)<(p.length:Int):=by omega
    have ac:Ll I ((i:Int)-1)=(i:Int)-1:=iw;have x0:=za hG.out x0;have x1:=za hG.out x1;have HA:=fE (AY i p emp x a0);clear a0;by_cases h0:x.Kind=0
    ·have a1:(x.Kind == 0)=M:=LM.2 h0
     have HS:Hid (x.Name=lp p n):=fE (by rw[<-hN.out,HA.out,Lu h0]);clear h0;go_wp2_with(fail);exact Ln (v:=G x.Name) (by simp[Ly,results198,go_sem]) rfl ⟨by rw[HS.out],hG.out⟩
    ·have a1:(x.Kind == 0)=U:=Lk.2 h0
     have HS:Hid (nr p i emp=lp p n):=fE (by rw[<-hN.out,HA.out,Lt h0]);clear h0;go_wp2_with(fail);go_roundw;exact⟨i,(i:Int)-1,by go_num,by omega,by omega,hG,HS⟩;exact gL
   ·have a3:¬ (zi≥0):=hz0
    obtain rfl:j=0:=by omega
    have HE:Hid (emp=lp p n):=fE (by rw[<-hN.out,xh]);go_wp2_with(fail);exact Ln (v:=G emp) (by simp[Ly,results198,go_sem,emp]) rfl ⟨by rw[HE.out],hG.out⟩
 ·have HL:Hid (lp p k=emp):=fE (xW (fun h=>by
   rw[Ow] at hb
   exact hb (zX.2 ⟨h.1,by omega⟩)))
  have HB:=fE hb;clear hb;go_enter func198,ntmps198;go_wp2_with(first | (go_at_call 43;(with_reducible refine(jr _ _ _ _).mono ?_);rw[HB.out];rintro e wb ⟨rfl,rfl⟩));exact Ln (v:=G emp) (by simp[Ly,results198,go_sem,emp]) rfl ⟨by rw[HL.out],gF⟩
theorem znC {x:fS} {level:Nat} (hx:(zM.sl 87).R w w.heap.size [J A p.length c] p)(hl:p.length<=1000000)(hc:(zF.sl 3).R w w.heap.size [J Ac x.fH.length cc] x.fH)(hlv:level<=1000) :
  LR prog 115 #[J A p.length c,.agg #[F I x.Op.Code,F I x.Op.Arg,F I x.fN,X x.Start,J Ac x.fH.length cc,F I x.fK,X x.fI],F I level] w fun e w'=>e=.returned (G (zN p x level))/\fF w w':=by
 have a5:Ll I ((level:Int)+1)=(level:Int)+1:=iw;by_cases h1:level+1<x.fH.length
 ·obtain⟨gc,oc,v,rfl,hv,a1,_⟩:=lR hc h1
  have a2:∀ o,(w.alloc o).cell? ⟨gc,oc+(level+1),V⟩=H (F I v):=fun o=>zo a1 o;have a3:(x.fH.length:Int) > (level:Int)+1:=by omega
  have a4:(level:Int)+1<(x.fH.length:Int):=by omega
  have HN:Hid (zN p x level=lp p v):=fE (by unfold zN;rw[Lu h1,Mp,hv];rfl);clear hv;go_enter func115,ntmps115;go_wp2_with(first | (go_at_call 198;(with_reducible refine(zj3 (Ty.up _ hx gF) hl).mono ?_);rintro e w1 ⟨rfl,a0⟩));exact Ln (v:=G (lp p v)) (by simp[Ly,results115,go_sem]) rfl ⟨by rw[HN.out],fF.trans (b:=_) gF a0⟩
 ·have a3:¬ ((x.fH.length:Int) > (level:Int)+1):=by omega
  have a4:¬ ((level:Int)+1<(x.fH.length:Int)):=by omega
  have HN:Hid (zN p x level=lp p x.fN):=fE (by unfold zN;rw[Lt h1]);go_enter func115,ntmps115;go_wp2_with(first | (go_at_call 198;(with_reducible refine(zj3 (Ty.up _ hx gF) hl).mono ?_);rintro e w1 ⟨rfl,a0⟩));exact Ln (v:=G (lp p x.fN)) (by simp[Ly,results115,go_sem]) rfl ⟨by rw[HN.out],fF.trans (b:=_) gF a0⟩
theorem zlW {x:fQ} (h0:0<=x.Offset/\x.Offset<=1000000000) :
  LR prog 117 #[.agg #[F I x.Offset,F I x.Item.Op.Code,F I x.Item.Op.Arg,F I x.Item.fN,X x.Item.Start,J Ac x.Item.fH.length cc,F I x.Item.fK,X x.Item.fI]] w fun e w'=>e=.returned (F I (x.Offset+zA x.Item.Op.Code))/\fF w w':=by
 have hb:=yv x.Item.Op.Code;have hw:Ll I (x.Offset+zA x.Item.Op.Code)=x.Offset+zA x.Item.Op.Code:=iw;go_enter func117,ntmps117;go_upto_region 1 with(fail);have eb:=Lp w (C #[F I x.Offset,F I x.Item.Op.Code,F I x.Item.Op.Arg,F I x.Item.fN,X x.Item.Start,J Ac x.Item.fH.length cc,F I x.Item.fK,X x.Item.fI] 133);obtain⟨y0,y1,_,_,_,_,_,_,_,_⟩:=jA eb;clear eb;go_region_held3 (fun w'=>Lg w' ⟨w.heap.size,0,V⟩=H (F I x.Offset)/\Lg w' ⟨w.heap.size,1,V⟩=H (F I x.Item.Op.Code)) ((repeat' apply Ls) <;> (first | ((repeat (first | assumption | with_reducible refine zC ?_ _ _ | with_reducible refine zo ?_ _ | with_reducible refine zb ?_));done) | (simp[go_sem];done))) (first | (go_at_call 114;(with_reducible refine(zcV _ _).mono ?_);rintro e w1 ⟨rfl,rfl⟩))
 all_goals go_wp2_with(fail)
 all_goals exact Ln (v:=F I (x.Offset+zA x.Item.Op.Code)) (by simp[Ly,results117,go_sem]) rfl ⟨rfl,gF⟩
theorem vY:rq.toList = [109,97,105,110]:=by unfold rq;simp[go_sem]
theorem Dy (h:60<p.length):zs p=U:=by unfold zs;rw[LK (by omega)];rfl
theorem tj (h:nD p=U):zs p=U:=by unfold zs;rw[h];simp
theorem IT (h:6<(zk p).length):zs p=U:=by unfold zs;rw[LK (show ¬ ((zk p).length<=6) by omega)];simp
theorem CY (h:mK p p 0=U):zs p=U:=by unfold zs;rw[h];simp
theorem IU (h1:p.length<=60)(h2:nD p=M)(h3:(zk p).length<=6)(h4:mK p p 0=M):zs p=lQ p p.length 0:=by unfold zs;rw[LN h1,h2,LN h3,h4];simp
theorem DC (h:p[0]?=H x)(h0:x.Kind≠0):nD p=U:=by unfold nD;rw[h];simp only;rw[LK h0];rfl
theorem DT (h:p[0]?=H x)(h0:x.Name≠rq):nD p=U:=by unfold nD;rw[h];simp only;rw[LK h0];simp
theorem DU (h:p[0]?=H x)(h0:x.fP.length≠0):nD p=U:=by unfold nD;rw[h];simp only;rw[LK h0];simp
theorem DV (h:p[0]?=H x)(h0:x.Kind=0)(h1:x.Name=rq)(h2:x.fP.length=0):nD p=M:=by unfold nD;rw[h];simp only;rw[LN h0,LN h1,LN h2];rfl
theorem Ih (h:p[k]?=H x)(hn:p.length<=n+k):lQ p n k=(decide (x.Kind=0) && (decide (0<=zJ p k) && (lu p k (zJ p k).toNat && lQ p (n-1) ((zJ p k).toNat+1)))):=by
 have hl:=(Lh.1 h).1
 match n,hn with
 | 0,hn=>omega
 | n+1,hn=>
  rw[lQ,h];rfl
theorem Hn (h:p.length<=k):lQ p n k=M:=by
 match n with
 | 0=>rfl
 | n+1=>rw[lQ,MZ h]
theorem mR {g:Prop} (f:g:=by
  go_enter func31,ntmps31
  go_wp2_with(fail)
  all_goals exact Ln (v:=X U) (by simp[Ly,results31,go_sem]) rfl ⟨by rw[HF.out],gF⟩):g:=f
theorem rO {g:Prop} (f:g:=by
  go_wp2_with(first | (go_at_call 94;(with_reducible refine(zbn (Ty.up _ hx (hG.out.trans gF)) hl).mono ?_);rw[HE.out];rintro e2 v2 ⟨rfl,hg2⟩;have u0:=za (hG.out.trans (fF.trans (b:=_) gF hg2)) x0))
  all_goals exact Ln (v:=X U) (by simp[Ly,results31,go_sem]) rfl ⟨by rw[HF.out],hG.out.trans (fF.trans (b:=_) gF (hg2.trans gF))⟩):g:=f
theorem za8 (hx:(zM.sl 87).R w w.heap.size [J A xs.length c] xs)(hl:xs.length<=1099511627776)(hs:∀ x∈xs,x.fP.length<=1099511627776/\x.Expr.length<=1099511627776) :
  LR prog 31 #[J A xs.length c] w fun r w'=>r=.returned (X (zs xs))/\fF w w':=by
 by_cases h00:xs.length=0
 ·have HF:Hid (zs xs=U):=fE (tj (by unfold nD;rw[MZ (by omega)]))
  have aq:((xs.length:Int) == 0)=M:=LM.2 (by omega);clear h00;exact mR
 have aq:((xs.length:Int) == 0)=U:=Lk.2 (by omega);by_cases h60:60<xs.length
 ·have HF:Hid (zs xs=U):=fE (Dy h60)
  have ac:(xs.length:Int) > 60:=by omega
  clear h00 h60;exact mR
 have ac:¬ ((xs.length:Int) > 60):=by omega
 have ar:¬ (60<(xs.length:Int)):=by omega
 obtain⟨g,aK,y,aA,aC,aB,aD,rfl,aG,hy,y0,y1,y2,y3,_,_,_,_⟩:=jb hx (k:=0) (by omega);simp only[Nat.zero_mul,Nat.add_zero] at y0 y1 y2 y3;have ay:(0:Int)<(xs.length:Int):=by omega
 have ae:=zcA hx hl;obtain⟨FL,ad⟩:∃ FL,zk xs=FL:=⟨_,rfl⟩
 rw[ad] at ae;have aj:=fE ad;clear ad;by_cases k0:y.Kind=0
 rotate_left
 ·have HF:Hid (zs xs=U):=fE (tj (DC hy k0))
  have q0:(y.Kind != 0)=M:=by rw[jZ,LK k0];rfl
  clear k0 h00 h60 hy;exact mR
 have q0:(y.Kind != 0)=U:=by rw[jZ,LN k0];rfl
 by_cases k1:y.Name=rq
 rotate_left
 ·have HF:Hid (zs xs=U):=fE (tj (DT hy k1))
  have q1:(y.Name.toList == [109,97,105,110])=U:=by rw[<-vY,mw];exact LK k1
  clear k0 k1 h00 h60 hy;exact mR
 have q1:(y.Name.toList == [109,97,105,110])=M:=by rw[<-vY,mw];exact LN k1
 by_cases k2:y.fP.length=0
 rotate_left
 ·have HF:Hid (zs xs=U):=fE (tj (DU hy k2))
  have q2:((y.fP.length:Int) != 0)=M:=by rw[jZ,LK (by omega)];rfl
  clear k0 k1 k2 h00 h60 hy;exact mR
 have q2:((y.fP.length:Int) != 0)=U:=by rw[jZ,LN (by omega)];rfl
 have HH:=fE (DV hy k0 k1 k2);clear k0 k1 k2 hy;by_cases k6:6<FL.length
 ·have HF:Hid (zs xs=U):=fE (IT (by rw[aj.out];exact k6))
  have az:(FL.length:Int) > 6:=by omega
  clear k6 h00 h60;go_enter func31,ntmps31;go_wp2_with(first | (go_at_call 91;(with_reducible refine ae.mono ?_);rintro e1 v1 ⟨AF,cF,SF,rfl,av,aw,af⟩))
  all_goals exact Ln (v:=X U) (by simp[Ly,results31,go_sem]) rfl ⟨by rw[HF.out],af.trans gF⟩
 have az:¬ ((FL.length:Int) > 6):=by omega
 have aJ:¬ (6<(FL.length:Int)):=by omega
 have an:Hid ((zk xs).length<=6):=fE (by rw[aj.out];omega);have ab:Hid (xs.length<=60):=fE (by omega);clear k6 h60;go_enter func31,ntmps31;go_wp2_with(first | (go_at_call 91;(with_reducible refine ae.mono ?_);rintro e1 v1 ⟨AF,cF,SF,rfl,av,aw,af⟩));go_loopw [3] (fun j wr=>∃(i:Nat),j=F I i/\i<=xs.length/\Hid (fF w wr)/\Hid (mK xs (xs.drop i) i=mK xs xs 0)) (fun j _=>xs.length-(Ml j).toNat)
 case atStart=>exact⟨0,rfl,Lv _,fE (af.trans gF),fE rfl⟩
 case round=>
  obtain⟨i,rfl,hi,hG,hE⟩:=hrel;by_cases hlt:i<xs.length
  ·obtain⟨g2,ah,x,al,ao,am,ap,a3,_,a5,x0,x1,x2,x3,b0,b1,h2,h3⟩:=jb hx hlt
   injection a3 with a3
   injection a3 with e1 e2
   subst e1 e2;have ag:(i:Int)<(xs.length:Int):=by omega
   have v0:=za hG.out x0;have aL:=za hG.out x1;have aM:=za hG.out x2;have v3:=za hG.out x3;obtain⟨a8,a9⟩:=hs x (LP a5);have HX:=fE a5;clear a5;rcases LH (ku x) with a1 | a1
   rotate_left
   ·have a6:=fE a1
    have HF:Hid (zs xs=U):=fE (CY (by rw[<-hE.out,vX HX.out];unfold oR;rw[a1];rfl));clear a1;go_wp2_with(first | (go_at_call 92;(with_reducible refine(zhy (x:=x) b1 (Ty.up _ h2 (hG.out.trans gF)) (Ty.up _ h3 (hG.out.trans gF)) a8 a9).mono ?_);rw[a6.out];rintro e2 v2 ⟨rfl,hg2⟩;have u0:=za (hG.out.trans (fF.trans (b:=_) gF hg2)) x0;have u1:=za (hG.out.trans (fF.trans (b:=_) gF hg2)) x1))
    all_goals exact Ln (v:=X U) (by simp[Ly,results31,go_sem]) rfl ⟨by rw[HF.out],hG.out.trans (fF.trans (b:=_) gF (hg2.trans gF))⟩
   have a6:=fE a1;by_cases k0:x.Kind=0
   ·have ai:(x.Kind == 0)=M:=LM.2 k0
    by_cases hf:zQ xs x.Name=i
    ·have qf:(zQ xs x.Name != (i:Int))=U:=by rw[jZ,LN hf];rfl
     have HF:Hid (mK xs (xs.drop (i+1)) (i+1)=mK xs xs 0):=fE (by rw[<-hE.out,vX HX.out];unfold oR;rw[a1,Lu k0,LN hf];rfl);clear a1 k0 hf;go_wp2_with(first | (go_at_call 92;(with_reducible refine(zhy (x:=x) b1 (Ty.up _ h2 (hG.out.trans gF)) (Ty.up _ h3 (hG.out.trans gF)) a8 a9).mono ?_);rw[a6.out];rintro e2 v2 ⟨rfl,hg2⟩;have u0:=za (hG.out.trans (fF.trans (b:=_) gF hg2)) x0;have u1:=za (hG.out.trans (fF.trans (b:=_) gF hg2)) x1) | (go_at_call 93;(with_reducible refine(zcM (Ty.up _ hx (hG.out.trans (fF.trans (b:=_) gF (hg2.trans gF)))) hl).mono ?_);rintro e3 v3 ⟨rfl,a4⟩));go_roundw;exact⟨i+1,by go_num,by omega,fE (hG.out.trans (fF.trans (b:=_) gF (hg2.trans (fF.trans (b:=_) gF (a4.trans gF))))),HF⟩;exact gL
    ·have qf:(zQ xs x.Name != (i:Int))=M:=by rw[jZ,LK hf];rfl
     have HF:Hid (zs xs=U):=fE (CY (by rw[<-hE.out,vX HX.out];unfold oR;rw[a1,Lu k0,LK hf];rfl));clear a1 k0 hf;go_wp2_with(first | (go_at_call 92;(with_reducible refine(zhy (x:=x) b1 (Ty.up _ h2 (hG.out.trans gF)) (Ty.up _ h3 (hG.out.trans gF)) a8 a9).mono ?_);rw[a6.out];rintro e2 v2 ⟨rfl,hg2⟩;have u0:=za (hG.out.trans (fF.trans (b:=_) gF hg2)) x0;have u1:=za (hG.out.trans (fF.trans (b:=_) gF hg2)) x1) | (go_at_call 93;(with_reducible refine(zcM (Ty.up _ hx (hG.out.trans (fF.trans (b:=_) gF (hg2.trans gF)))) hl).mono ?_);rintro e3 v3 ⟨rfl,a4⟩))
     all_goals exact Ln (v:=X U) (by simp[Ly,results31,go_sem]) rfl ⟨by rw[HF.out],hG.out.trans (fF.trans (b:=_) gF (hg2.trans (fF.trans (b:=_) gF (a4.trans gF))))⟩
   ·have ai:(x.Kind == 0)=U:=Lk.2 k0
    have HF:Hid (mK xs (xs.drop (i+1)) (i+1)=mK xs xs 0):=fE (by rw[<-hE.out,vX HX.out];unfold oR;rw[a1,Lt k0];rfl);clear a1 k0;go_wp2_with(first | (go_at_call 92;(with_reducible refine(zhy (x:=x) b1 (Ty.up _ h2 (hG.out.trans gF)) (Ty.up _ h3 (hG.out.trans gF)) a8 a9).mono ?_);rw[a6.out];rintro e2 v2 ⟨rfl,hg2⟩;have u0:=za (hG.out.trans (fF.trans (b:=_) gF hg2)) x0;have u1:=za (hG.out.trans (fF.trans (b:=_) gF hg2)) x1));go_roundw;exact⟨i+1,by go_num,by omega,fE (hG.out.trans (fF.trans (b:=_) gF (hg2.trans gF))),HF⟩;exact gL
  ·obtain rfl:i=xs.length:=by omega
   have ag:¬ ((xs.length:Int)<(xs.length:Int)):=by omega
   have a7:Hid (zs xs=lQ xs xs.length 0):=fE (IU ab.out HH.out an.out (by rw[<-hE.out,LY];rfl));have au:=hG;clear hG hE;go_wp2_with(fail);go_loopw [4] (fun j wr=>∃(k n:Nat),j=F I k/\k<=xs.length/\xs.length<=n+k/\Hid (fF w wr)/\Hid (lQ xs n k=lQ xs xs.length 0)) (fun j _=>xs.length-(Ml j).toNat)
   case atStart=>exact⟨0,xs.length,rfl,Lv _,by omega,fE (au.out.trans gF),fE rfl⟩
   case round=>
    obtain⟨k,n,rfl,hk,ax,hG,hE⟩:=hrel;by_cases hlt:k<xs.length
    ·obtain⟨g2,ah,x,al,ao,am,ap,a3,_,a5,x0,_,_,_,_,_,_,_⟩:=jb hx hlt
     injection a3 with a3
     injection a3 with e1 e2
     subst e1 e2;have ag:(k:Int)<(xs.length:Int):=by omega
     have v0:=za hG.out x0;have a2:=Ih a5 ax;clear a5;by_cases k0:x.Kind=0
     rotate_left
     ·have ai:(x.Kind != 0)=M:=by rw[jZ,LK k0];rfl
      have HF:Hid (zs xs=U):=fE (by rw[a7.out,<-hE.out,a2,LK k0];rfl);obtain⟨ev,ak⟩:∃ ev,zJ xs k=ev:=⟨_,rfl⟩
      have HE:=fE ak;clear ak a2 k0;exact rO
     have ai:(x.Kind != 0)=U:=by rw[jZ,LN k0];rfl
     rcases pQ xs k with⟨he,_⟩ | ⟨e,he,a0⟩
     ·have HE:=fE he
      have HF:Hid (zs xs=U):=fE (by rw[a7.out,<-hE.out,a2,he,LN k0];rfl);clear he a2 k0;exact rO
     have HE:=fE he;have aF:=a0.len;have aH:=a0.lt;have aE:¬ ((e:Int)<0):=by omega
     have aI:Ll I ((e:Int)+1)=(e:Int)+1:=iw;rw[he,Lw,LN k0,LN (show (0:Int)<=(e:Int) by omega),M4,M4] at a2;rcases LH (lu xs k e) with hb | hb
     ·have aa:=fE hb
      have HF:Hid (lQ xs (n-1) (e+1)=lQ xs xs.length 0):=fE (by rw[<-hE.out,a2,hb,M4]);clear he a2 k0 hb;go_wp2_with(first | (go_at_call 94;(with_reducible refine(zbn (Ty.up _ hx (hG.out.trans gF)) hl).mono ?_);rw[HE.out];rintro e2 v2 ⟨rfl,hg2⟩;have u0:=za (hG.out.trans (fF.trans (b:=_) gF hg2)) x0) | (go_at_call 95;(with_reducible refine(zqN (Ty.up _ hx (hG.out.trans (fF.trans (b:=_) gF (hg2.trans gF)))) hl hs a0).mono ?_);rw[aa.out];rintro e3 v3 ⟨rfl,a4⟩));go_roundw;exact⟨e+1,n-1,by go_num,by omega,by omega,fE (hG.out.trans (fF.trans (b:=_) gF (hg2.trans (fF.trans (b:=_) gF (a4.trans gF))))),HF⟩;exact gL
     ·have aa:=fE hb
      have HF:Hid (zs xs=U):=fE (by rw[a7.out,<-hE.out,a2,hb];rfl);clear he a2 k0 hb;go_wp2_with(first | (go_at_call 94;(with_reducible refine(zbn (Ty.up _ hx (hG.out.trans gF)) hl).mono ?_);rw[HE.out];rintro e2 v2 ⟨rfl,hg2⟩;have u0:=za (hG.out.trans (fF.trans (b:=_) gF hg2)) x0) | (go_at_call 95;(with_reducible refine(zqN (Ty.up _ hx (hG.out.trans (fF.trans (b:=_) gF (hg2.trans gF)))) hl hs a0).mono ?_);rw[aa.out];rintro e3 v3 ⟨rfl,a4⟩))
      all_goals exact Ln (v:=X U) (by simp[Ly,results31,go_sem]) rfl ⟨by rw[HF.out],hG.out.trans (fF.trans (b:=_) gF (hg2.trans (fF.trans (b:=_) gF (a4.trans gF))))⟩
    ·obtain rfl:k=xs.length:=by omega
     have ag:¬ ((xs.length:Int)<(xs.length:Int)):=by omega
     have HF:Hid (zs xs=M):=fE (by rw[a7.out,<-hE.out];exact Hn (Lz _));go_wp2_with(fail);exact Ln (v:=X M) (by simp[Ly,results31,go_sem]) rfl ⟨by rw[HF.out],hG.out.trans gF⟩
end Go.Proofs.YtiihkapmggfjkaaGreat
