/-
  PART.
-/
import Derived.Test.YtiihkapmggfjkaaGreatM34LawMakeDebug
set_option linter.unusedVariables false
set_option linter.unusedSimpArgs false
set_option maxRecDepth 100000
set_option maxHeartbeats 8000000
namespace Go.Proofs.YtiihkapmggfjkaaGreat
open Value renaming slice->J,int->F,string->G
open IntKind renaming i64->I,wrap->Ll
open Option renaming none->V,some->H
open Obj renaming cells->C
open Bool renaming false->U,true->M
open Go renaming World->N,results->Ly,Calls->LR,Addr->Mh
open World renaming cell?->Lg
open List renaming length_cons->LJ,getElem?_cons_zero->Mf,getElem?_cons_succ->MV,range'->Nn
open RowKit renaming intOf->Ml
open Tryz
open Go.RowKit
variable {K9 j k level:Nat}{p:Q fG}{w:N}{x y:fQ}{xs:Q fQ}
def mF (p:Q fG)(level:Nat)(l:Q fQ):Q gJ:=nM p level l.length l
theorem Fi (p:Q fG)(level:Nat):∀(n:Nat)(l:Q fQ),l.length<=n->nM p level n l=nM p level l.length l:=by
 intro n;induction n using Nat.strongRecOn with
 | ind n ih=>
  intro l hl;cases l with
  | nil=>cases n <;> rfl
  | cons x r=>
   obtain⟨n,rfl⟩:∃ m,n=m+1:=⟨n-1,by simp at hl;omega⟩
   simp only[LJ] at hl;show nM p level (n+1) (x::r)=nM p level (r.length+1) (x::r);unfold nM;split
   ·simp only
    congr 1;have hd:(r.drop (r.takeWhile (lP p level x.Item.fH (zN p x.Item level))).length).length<=r.length:=by rw[NM];omega
    rw[ih n (by omega) _ (by omega)];by_cases hr:r.length=n
    ·subst hr
     rw[ih _ (by omega) _ hd]
    ·rw[ih r.length (by omega) _ hd]
   ·rw[ih n (by omega) r (by omega)]
def rm (p:Q fG)(level:Nat)(x y:fQ):gJ:=⟨x.Offset,y.Offset+zA y.Item.Op.Code,level,x.Item.fH.getD level 0,zN p x.Item level⟩
theorem FT (hx:xs[k]?=H x)(h:¬ level<x.Item.fH.length):mF p level (xs.drop k)=mF p level (xs.drop (k+1)):=by
 obtain⟨h1,rfl⟩:=Lh.1 hx;unfold mF;rw[LI h1,LJ]
 conv=>lhs;unfold nM
 rw[Lt h]
def ju (f:fQ->Bool)(xs:Q fQ)(k j:Nat):Prop:=(xs.drop (k+1)).takeWhile f=(xs.drop (k+1)).take j++(xs.drop (k+1+j)).takeWhile f
theorem C4 (f:fQ->Bool)(xs:Q fQ)(k:Nat):ju f xs k 0:=by unfold ju;simp
theorem ju.next {f:fQ->Bool} (h:ju f xs k j)(hy:xs[k+1+j]?=H y)(hf:f y=M):ju f xs k (j+1):=by
 unfold ju at h |-;obtain⟨h1,rfl⟩:=Lh.1 hy;rw[h,LI h1,List.takeWhile_cons_of_pos hf,ME];have:(xs.drop (k+1))[j]?=H xs[k+1+j]:=by rw[NO];exact hy
 rw[this];simp[Nat.add_assoc]
theorem ju.done (h:ju (lP p level x.Item.fH (zN p x.Item level)) xs k j)(hx:xs[k]?=H x)(hl:level<x.Item.fH.length)(hy:xs[k+j]?=H y)
  (hend:∀ z,xs[k+1+j]?=H z->lP p level x.Item.fH (zN p x.Item level) z=U):mF p level (xs.drop k)=rm p level x y::mF p level (xs.drop (k+1+j)):=by
 obtain⟨h1,rfl⟩:=Lh.1 hx;have a7:=(Lh.1 hy).1
 have a0:(xs.drop (k+1+j)).takeWhile (lP p level xs[k].Item.fH (zN p xs[k].Item level)) = []:=by
  cases hz:xs[k+1+j]? with
  | none=>
   rw[MU (Nd.1 hz)];rfl
  | some z=>
   have a6:=hend z hz;obtain⟨g1,rfl⟩:=Lh.1 hz;rw[LI g1,List.takeWhile_cons_of_neg (by rw[a6];simp)]
 have a3:(xs.drop (k+1)).takeWhile (lP p level xs[k].Item.fH (zN p xs[k].Item level))=(xs.drop (k+1)).take j:=by
  have:=h;unfold ju at this;rw[this,a0,MC]
 have a5:((xs.drop (k+1)).take j).length=j:=by rw[MG,NM];omega
 have a1:∀ a4:(xs[k]::(xs.drop (k+1)).take j)≠[],(xs[k]::(xs.drop (k+1)).take j).getLast a4=y:=by
  intro a4;rw[List.getLast_eq_getElem];have a8:(xs[k]::(xs.drop (k+1)).take j).length-1=j:=by rw[LJ,a5];omega
  have a2:(xs[k]::(xs.drop (k+1)).take j)[j]?=H y:=by
   cases j with
   | zero=>
    rw[Nat.add_zero,Lo h1] at hy;rw[Mf];exact hy
   | succ j=>
    rw[MV,Nc,Lu (by omega),NO,show k+1+j=k+(j+1) from by omega];exact hy
  obtain⟨q1,q2⟩:=Lh.1 a2;rw[<-q2];congr 1
 unfold mF;rw[LI h1,LJ]
 conv=>lhs;unfold nM
 rw[Lu hl];simp only[a3,a5];rw[a1];show rm p level xs[k] y::_=_;congr 1;rw[Nh];rw[Fi p level _ _ (by simp only[NM];omega)]
theorem Fm (h:∀ x∈p,x.Name.size<=K9)(k:Int):(lp p k).size<=K9:=by
 have a0:∀(l:Q fG) (n:Nat) (s:D),(∀ x∈l,x.Name.size<=K9)->s.size<=K9->(nr l n s).size<=K9:=by
  intro l;induction l with
  | nil=>intro n s _ hs;cases n <;> exact hs
  | cons x r ih=>
   intro n s hl hs;cases n with
   | zero=>exact hs
   | succ n=>
    refine ih n _ (fun y hy=>hl y (.tail _ hy)) ?_;split
    ·exact hl x (.head _)
    ·exact hs
 unfold lp;split
 ·exact a0 _ _ _ h (Lv _)
 ·exact Lv _
theorem AV (h:∀ x∈p,x.Name.size<=K9)(x:fS)(l:Nat):(zN p x l).size<=K9:=by
 unfold zN;split <;> exact Fm h _
theorem Ea (h:xs[k]?=H x)(m:Nat):(xs.drop k).foldl (fun n x=>max n x.Item.fH.length) m=(xs.drop (k+1)).foldl (fun n x=>max n x.Item.fH.length) (max m x.Item.fH.length):=yS (f:=fun n (x:fQ)=>max n x.Item.fH.length) h
theorem Ds {n:Nat} (h:level<n):(Nn level (n-level)).flatMap (fun lv=>mF p lv xs)=mF p level xs++(Nn (level+1) (n-(level+1))).flatMap (fun lv=>mF p lv xs):=by
 rw[show n-level=n-(level+1)+1 from by omega,OK];rfl
theorem Bh (h1:zs p=M)(h2:mn xs=M):zS p xs=(Nn 0 (tA xs-0)).flatMap (fun lv=>mF p lv xs):=by
 unfold zS;rw[Lu ⟨h1,h2⟩,List.range_eq_range'];rfl
def Ed (xs:Q gJ)(w:N)(r:Ending)(w':N):Prop:=∃ A c S,r=.returned (J A xs.length c)/\Has (jH.sl 143) w' [J A xs.length c] xs S/\(∀ b∈S,w.heap.size<=b)/\fF w w'
theorem IV {chain:Q Int} {name:D} (hl:level<chain.length):lP p level chain name y=(oY chain y.Item.fH (level+1) && decide (zN p y.Item level=name)):=by
 unfold lP oY;by_cases h1:level<y.Item.fH.length
 ·have h2:level+1<=y.Item.fH.length:=h1
  have h3:level+1<=chain.length:=hl;simp only[h1,h2,h3,OU,M4];by_cases h4:y.Item.fH.take (level+1)=chain.take (level+1)
  ·simp[h4]
  ·have h5:¬ chain.take (level+1)=y.Item.fH.take (level+1):=fun h=>h4 h.symm
   simp[h4,h5]
 ·have h2:¬ level+1<=y.Item.fH.length:=h1
  simp[h1,h2]
theorem ES (c:Int)(w:N)(n:Nat):LR prog 98 #[F I c] (w.drewN n) fun e w''=>e=.returned (F I (zA c))/\∃ m,w''=w.drewN m:=CZ (zkf _ _)
theorem xN (p:Q fG)(level:Nat):∀(n:Nat)(l:Q fQ),(nM p level n l).length<=n
 | 0,_=>Lz _
 | n+1,[]=>Lv _
 | n+1,x::r=>by
  unfold nM;split
  ·simp only[LJ]
   have:=xN p level n (r.drop (r.takeWhile (lP p level x.Item.fH (zN p x.Item level))).length);omega
  ·have:=xN p level n r
   omega
theorem gw {α β:Type}{f:α->Q β}{La:Nat}(h:∀ a,(f a).length<=La):∀ l:Q α,(l.flatMap f).length<=l.length*La
 | []=>by simp
 | a::l=>by
  have h1:=h a;have h2:=gw h l;rw[Od,Lj,LJ,Nat.succ_mul];omega
theorem wG {K9:Nat}:∀(xs:Q fQ)(m:Nat),m<=K9->(∀ x∈xs,x.Item.fH.length<=K9)->xs.foldl (fun n x=>max n x.Item.fH.length) m<=K9
 | [],m,h,_=>h
 | x::r,m,h,hx=>wG r _ (Nat.max_le.2 ⟨h,hx x (.head _)⟩) (fun y hy=>hx y (.tail _ hy))
theorem xt (hl:xs.length<=100000)(hc:∀ x∈xs,x.Item.fH.length<=100):(zS p xs).length<=10000000:=by
 unfold zS;split
 ·have h1:=gw (f:=fun level=>nM p level xs.length xs) (La:=xs.length) (fun a=>xN p a _ _) (List.range (tA xs))
  have h2:tA xs<=100:=wG xs 0 (by omega) hc;rw[List.length_range] at h1;have h3:tA xs*xs.length<=100*100000:=Nat.mul_le_mul h2 hl;omega
 ·exact Lv _
theorem Bq {B:Nat} {cl:Int} {nm:D} (hc:x.Item.fH.getD level 0=cl)(hn:zN p x.Item level=nm)(h0:fV x.Offset)(h1:fV (y.Offset+zA y.Item.Op.Code))(h2:fV (level:Int))(h3:fV cl)(h4:(zN p x.Item level).size<=9223372036854775807) :
  jH.R w B [F I x.Offset,F I (y.Offset+zA y.Item.Op.Code),F I level,F I cl,G nm] (rm p level x y):=by
 subst hc;subst hn;exact GJ (x:=rm p level x y) h0 h1 h2 h3 h4
theorem tN {g:Prop} (f:g:=by
  have HD:=fE (ju.done hRun.out HXK.out hlv HYJ.out HNO.out)
  have hlen9:acc.length+1<=100000000:=by
   have h:=MY List.length hA.out
   rw[HD.out] at h
   simp only[Lj,LJ] at h
   have h2:=HTL.out
   omega
  have hgwT:g<_:=Li hgw (hG.out.trans HGT.out).size
  have hgcwT:gc<_:=Li hgcw (hG.out.trans HGT.out).size
  go_upto_region 21 with(fail)
  go_quiet ((first | (go_at_call 98;with_reducible exact ES _ _ _)))
  go_upto_region 22 with(fail)
  go_region_held3 (fun w'=>Lg w' ⟨g,off+k*8,V⟩=H (F I x.Offset)/\Lg w' ⟨gc,oc+level,V⟩=H (F I cl)) ((repeat' apply Ls) <;> ((repeat (first | with_reducible assumption | with_reducible refine zC ?_ _ _ | with_reducible refine zo ?_ _ | with_reducible refine zb ?_ | with_reducible refine oL ?_ _));done)) (first | (refine zO (L:=acc.length+1) rfl (.tmp 114) (.tmp 128) BA Ba ((hH.out.fO HGT.out).fO gF) (W1:=w) (B:=0) (ec:=[F I x.Offset,F I (y.Offset+zA y.Item.Op.Code),F I level,F I cl,G nm]) (y:=rm p level x y) (Bq HCL.out HNM.out b0 hyI ⟨by omega,by omega⟩ hclI (AV hnm _ _)) rfl rfl rfl (by intro j u hu;simpa[go_sem] using hu) rfl (by omega) (by omega) ?_;intro A8 c8 W8 S8 hon hH8 hS8;have x0:=(hon.cell (g:=g) (Li hgwT (fF.size gF)) hgS _).trans (za gF x0);have cc:=(hon.cell (g:=gc) (Li hgcwT (fF.size gF)) hgcS _).trans (za gF cc)))
  all_goals go_wp2_with(fail)
  all_goals go_roundw
  exact⟨q+1,acc++[rm p level x y],A8,c8,S8,by rw[Lj];rfl,by go_num,by omega,fE (hon.fO ((hG.out.trans HGT.out).trans gF) hS.out),fE (by rw[Lj];exact hH8),fE (fun b hb=>(hS8 b hb).elim (hS.out b) (fun h=>LO (fF.size ((hG.out.trans HGT.out).trans gF)) h)),fE (by rw[<-hA.out,HD.out,LZ,show k+1+j=q+1 from by rw[HQJ.out];omega];rfl)⟩
  exact gL):g:=f
theorem rZ {g:Prop} (f:g:=by
  have hkn:¬ ((xs.length:Int)<(xs.length:Int)):=by omega
  have HAE:Hid (acc++REST=zS p xs):=fE (by rw[<-hA.out,LY];rfl)
  go_wp2_with(fail)
  go_roundw
  exact⟨level+1,acc,A5,c5,S,rfl,by go_num,by omega,hG,hH,hS,fE (by rw[HR.out];exact HAE.out)⟩
  exact gL):g:=f
theorem sz {g:Prop} (f:g:=by
  have HSK:=fE (FT (p:=p) HXK.out hlv)
  go_wp2_with(fail)
  go_roundw
  exact⟨k+1,acc,A5,c5,S,rfl,by go_num,by omega,hG,hH,hS,fE (by rw[<-hA.out,HSK.out])⟩
  exact gL):g:=f
theorem zni {A B:K Mh} {c d:Nat} (hp:(zM.sl 87).R w w.heap.size [J A p.length c] p)(hpl:p.length<=1000000)(hps:∀ x∈p,x.fP.length<=1099511627776/\x.Expr.length<=1099511627776)(hnm:∀ x∈p,x.Name.size<=9223372036854775807)
  (hx:(oH.sl 133).R w w.heap.size [J B xs.length d] xs) (hl:xs.length<=100000) (hch:∀ x∈xs,x.Item.fH.length<=100) :
  LR prog 39 #[J A p.length c,J B xs.length d] w (Ed (zS p xs) w):=by
 obtain⟨pb,aN⟩:∃ b,zs p=b:=⟨_,rfl⟩
 have ag:=fE aN;clear aN;have aa:p.length<=1099511627776:=by omega
 have aL:xs.length<=1000000:=by omega
 cases pb with
 | false=>
  have HE:Hid (zS p xs = []):=fE (by unfold zS;rw[Lt (by rw[ag.out];simp)]);go_enter func39,ntmps39;go_wp2_with(first | (go_at_call 31;(with_reducible refine(za8 (Ty.up _ hp gF) aa hps).mono ?_);rw[ag.out];rintro e w1 ⟨rfl,a8⟩));exact Ln (v:=J (H ⟨w.heap.size,0,V⟩) 0 0) (by simp[Ly,results39,go_sem]) rfl (by rw[HE.out];exact⟨_,0,[w.heap.size],rfl,Has.emp jH (zj (Lp w (C #[] 143)) (fF.trans (b:=_) gF a8)),fun b hb=>by simp only[Lr] at hb;omega,fF.trans (b:=_) gF a8⟩)
 | true=>
 obtain⟨nb,am⟩:∃ b,mn xs=b:=⟨_,rfl⟩
 have af:=fE am;clear am;cases nb with
 | false=>
  have HE:Hid (zS p xs = []):=fE (by unfold zS;rw[Lt (by rw[af.out];simp)]);go_enter func39,ntmps39;go_wp2_with(first | (go_at_call 31;(with_reducible refine(za8 (Ty.up _ hp gF) aa hps).mono ?_);rw[ag.out];rintro e w1 ⟨rfl,a8⟩) | (go_at_call 100;(with_reducible refine(zmg (Ty.up _ hx (fF.trans (b:=_) gF a8)) aL).mono ?_);rw[af.out];rintro e w2 ⟨rfl,al⟩));exact Ln (v:=J (H ⟨w.heap.size,0,V⟩) 0 0) (by simp[Ly,results39,go_sem]) rfl (by rw[HE.out];exact⟨_,0,[w.heap.size],rfl,Has.emp jH (zj (Lp w (C #[] 143)) (fF.trans (b:=_) gF (a8.trans al))),fun b hb=>by simp only[Lr] at hb;omega,fF.trans (b:=_) gF (a8.trans al)⟩)
 | true=>
 have HE:=fE (Bh ag.out af.out);have HTL:=fE (xt (p:=p) hl hch);obtain⟨Lf,hD⟩:∃ Lf,tA xs=Lf:=⟨_,rfl⟩
 have bg:Lf<=100:=by rw[<-hD];exact wG xs 0 (by omega) hch
 have aC:=fE hD;clear hD;have aU:=fE hch;clear hch;go_enter func39,ntmps39;go_wp2_with(first | (go_at_call 31;(with_reducible refine(za8 (Ty.up _ hp gF) aa hps).mono ?_);rw[ag.out];rintro e w1 ⟨rfl,a8⟩) | (go_at_call 100;(with_reducible refine(zmg (Ty.up _ hx (fF.trans (b:=_) gF a8)) aL).mono ?_);rw[af.out];rintro e w2 ⟨rfl,al⟩));have HW:=fE (a8.trans al);go_loopw [6,7] (fun z6 z7 wr=>∃(k m:Nat),z6=F I m/\z7=F I k/\k<=xs.length/\m<=100/\Hid (fF w2 wr)/\Hid ((xs.drop k).foldl (fun n x=>max n x.Item.fH.length) m=Lf)) (fun _ z7 _=>xs.length-(Ml z7).toNat)
 case atStart=>exact⟨0,0,rfl,rfl,Lv _,Lv _,fE gF,aC⟩
 case round=>
 obtain⟨k,m,rfl,rfl,hk,hm,ah,hN⟩:=hrel;by_cases hlt:k<xs.length
 ·obtain⟨g,off,x,aR,aY,rfl,bh,ad,x0,x1,x2,x3,x4,x5,x6,x7,_⟩:=l2 hx hlt
  have hkn:(k:Int)<(xs.length:Int):=by omega
  have ba:Ll I ((k:Int)+1)=(k:Int)+1:=iw;have ak:=aU.out x (LP ad);have x5:=za ((fF.trans (b:=_) gF HW.out).trans ah.out) x5;have HA:=fE (Ea ad m);clear ad;by_cases hmx:m<x.Item.fH.length
  ·have b8:(m:Int)<(x.Item.fH.length:Int):=by omega
   have HM:Hid (max m x.Item.fH.length=x.Item.fH.length):=fE (OL (by omega));go_wp2_with(fail);go_roundw;exact⟨k+1,x.Item.fH.length,rfl,by go_num,by omega,ak,ah,fE (by rw[<-hN.out,HA.out,HM.out])⟩;exact gL
  ·have b8:¬ ((m:Int)<(x.Item.fH.length:Int)):=by omega
   have HM:Hid (max m x.Item.fH.length=m):=fE (OO (by omega));go_wp2_with(fail);go_roundw;exact⟨k+1,m,rfl,by go_num,by omega,hm,ah,fE (by rw[<-hN.out,HA.out,HM.out])⟩;exact gL
 obtain rfl:k=xs.length:=by omega
 have au:¬ ((xs.length:Int)<(xs.length:Int)):=by omega
 obtain rfl:m=Lf:=by have h:=hN.out;rw[LY] at h;exact h
 have aJ:fF w wr:=(fF.trans (b:=_) gF HW.out).trans ah.out;have aF:Has (jH.sl 143) wr [J (H ⟨w.heap.size,0,V⟩) 0 0] [] [w.heap.size]:=Has.emp jH (zj (Lp w (C #[] 143)) (HW.out.trans ah.out));have aX:=fE aF;have aW:=fE aJ;clear aF aJ;go_wp2_with(fail);clear au;go_loopw [5,8] (fun z5 z8 wr=>∃(level:Nat) (acc:Q gJ) (A5:K Mh) (c5:Nat) (S:Q Nat),z5=J A5 acc.length c5/\z8=F I level/\level<=m/\Hid (fF w wr)/\Hid (Has (jH.sl 143) wr [J A5 acc.length c5] acc S)/\Hid (∀ b∈S,w.heap.size<=b)/\Hid (acc++(Nn level (m-level)).flatMap (fun lv=>mF p lv xs)=zS p xs)) (fun _ z8 _=>m-(Ml z8).toNat)
 case atStart=>exact⟨0,[],_,0,[w.heap.size],rfl,rfl,Lv _,aW,aX,fE (fun b hb=>by simp only[Lr] at hb;omega),fE (by rw[HE.out,aC.out];rfl)⟩
 case round=>
 obtain⟨level,a7,an,aq,S0,rfl,rfl,bj,aE,aG,aH,aD⟩:=hrel;by_cases hlt:level<m
 ·have b7:(level:Int)<(m:Int):=by omega
  have bb:Ll I ((level:Int)+1)=(level:Int)+1:=iw;obtain⟨REST,a4⟩:∃ R,(Nn (level+1) (m-(level+1))).flatMap (fun lv=>mF p lv xs)=R:=⟨_,rfl⟩
  have HR:=fE a4;have aT:Hid (a7++(mF p level (xs.drop 0)++REST)=zS p xs):=fE (by rw[<-aD.out,Ds hlt,a4];rfl);have a3:level<=1000:=by omega
  have av:level+1<=1000000:=by omega
  clear a4;go_wp2_with(fail);go_loopw [5,9] (fun z5 z9 wr=>∃(k:Nat) (acc:Q gJ) (A5:K Mh) (c5:Nat) (S:Q Nat),z5=J A5 acc.length c5/\z9=F I k/\k<=xs.length/\Hid (fF w wr)/\Hid (Has (jH.sl 143) wr [J A5 acc.length c5] acc S)/\Hid (∀ b∈S,w.heap.size<=b)/\Hid (acc++(mF p level (xs.drop k)++REST)=zS p xs)) (fun _ z9 _=>xs.length-(Ml z9).toNat)
  case atStart=>exact⟨0,a7,an,aq,S0,rfl,rfl,Lv _,aE,aG,aH,aT⟩
  case round=>
  obtain⟨k,acc,A5,c5,S,rfl,rfl,hk,hG,hH,hS,hA⟩:=hrel;by_cases hlt:k<xs.length
  ·obtain⟨g,off,x,aR,aY,rfl,hgw,ad,x0,x1,x2,x3,x4,x5,x6,x7,b0,b1,b2,b3,h5,b6⟩:=l2 hx hlt
   have hkn:(k:Int)<(xs.length:Int):=by omega
   have ba:Ll I ((k:Int)+1)=(k:Int)+1:=iw;have x0:=za hG.out x0;have x1:=za hG.out x1;have x2:=za hG.out x2;have x3:=za hG.out x3;have x4:=za hG.out x4;have x5:=za hG.out x5;have x6:=za hG.out x6;have x7:=za hG.out x7;have HXK:=fE ad;clear ad;by_cases hlv:level<x.Item.fH.length
   ·have aw:¬ ((x.Item.fH.length:Int)<=(level:Int)):=by omega
    have aM:(level:Int)<(x.Item.fH.length:Int):=by omega
    obtain⟨gc,oc,cl,ar,ak,cc,hclI⟩:=lR h5 hlv;have hgcw:=MM _ _ cc;simp only at hgcw;have cc:=za hG.out cc;have HCL:Hid (x.Item.fH.getD level 0=cl):=fE (by rw[Mp,ak];rfl);have hgS:g∉S:=fun hm=>by have h:=hS.out g hm;omega
    have hgcS:gc∉S:=fun hm=>by have h:=hS.out gc hm;omega
    have ay:=Ty.up _ h5 hG.out;obtain⟨nm,aj⟩:∃ s,zN p x.Item level=s:=⟨_,rfl⟩
    have HNM:=fE aj;subst ar;have b4:=fE hH.out;clear ak aj;go_wp2_with(first | (go_at_call 101;(with_reducible refine(zf5 (x:=x) (Ty.up _ hp (hG.out.trans gF)) hpl (Ty.up _ ay gF) a3).mono ?_);rintro e w5 ⟨rfl,aI⟩));have ai:fF wr w5:=fF.trans (b:=_) gF aI;have ae:=fE ai;obtain⟨wq,aP⟩:∃ q,wr=q:=⟨_,rfl⟩
    rw[aP] at hG hH ae x0 x1 x2 x3 x4 x5 x6 x7 cc ay b4;clear ai aI aP;rw[HNM.out];go_loopw [11] (fun z11 wr=>∃ q j:Nat,z11=F I q/\q<xs.length/\k<=q/\Hid (q=k+j)/\Hid (fF wq wr)/\Hid (ju (lP p level x.Item.fH (zN p x.Item level)) xs k j)) (fun z11 _=>xs.length-(Ml z11).toNat)
    case atStart=>exact⟨k,0,rfl,hlt,Lz _,fE rfl,ae,fE (C4 _ _ _)⟩
    case round=>
     obtain⟨q,j,rfl,b9,bi,HQJ,a2,hRun⟩:=hrel;obtain⟨g',ab,y,be,bf,a9,_,aA,y0,y1,_,_,_,_,_,_,bp,_⟩:=l2 hx b9;injection a9 with a9
     injection a9 with hBB1 hBB2
     obtain rfl:g=g':=hBB1;obtain rfl:off=ab:=hBB2;have bl:(q:Int)<(xs.length:Int):=by omega
     have bc:Ll I ((q:Int)+1)=(q:Int)+1:=iw;have a1:=hG.out.trans a2.out;have y0:=za a1 y0;have y1:=za a1 y1;have x0:=za a2.out x0;have cc:=za a2.out cc;have az:=Ty.up _ ay a2.out;have b5:g<wr.heap.size:=by have:=a1.size;omega
     have aK:gc<wr.heap.size:=by have:=a1.size;omega
     have HYJ:Hid (xs[k+j]?=H y):=fE (by rw[<-HQJ.out];exact aA);have bo:=uV af.out aA;have bk:=qU y.Item.Op.Code;have hyI:fV (y.Offset+zA y.Item.Op.Code):=⟨by omega,by omega⟩
     have bn:Ll I (y.Offset+zA y.Item.Op.Code)=y.Offset+zA y.Item.Op.Code:=iw;clear aA;by_cases hqn:q+1<xs.length
     ·obtain⟨g',ab,z,aS,aZ,a9,_,aQ,z0,z1,z2,z3,z4,z5,z6,z7,_,_,_,_,bd,_⟩:=l2 hx hqn
      injection a9 with a9
      injection a9 with hBB1 hBB2
      obtain rfl:g=g':=hBB1;obtain rfl:off=ab:=hBB2;have ax:(q:Int)+1<(xs.length:Int):=by omega
      have bm:((q:Int)+1).toNat=q+1:=by omega
      have z0:=za a1 z0;have z1:=za a1 z1;have z2:=za a1 z2;have z3:=za a1 z3;have z4:=za a1 z4;have z5:=za a1 z5;have z6:=za a1 z6;have z7:=za a1 z7;have aB:=Ty.up _ bd a1;have ap:Hid (xs[k+1+j]?=H z):=fE (by rw[show k+1+j=k+j+1 from by omega,<-HQJ.out];exact aQ);clear aQ;obtain⟨sb,aO⟩:∃ b,oY x.Item.fH z.Item.fH (level+1)=b:=⟨_,rfl⟩
      have ac:=fE aO;clear aO;have ao:=fE (IV (p:=p) (name:=zN p x.Item level) (y:=z) hlv);have a6:=zs7 (n:=level+1) (Ty.up _ az (fF.refl _)) aB av;rw[show ((level+1:Nat):Int)=(level:Int)+1 from rfl] at a6;cases sb with
      | true=>
       by_cases hnz:zN p z.Item level=nm
       ·have am:((zN p z.Item level).toList == nm.toList)=M:=by rw[mw];simpa using hnz
        have aV:=fE (hRun.out.next ap.out (by rw[ao.out,ac.out,HNM.out,hnz];simp));clear hnz;go_wp2_with(first | (go_at_call 102;(with_reducible refine a6.mono ?_);rw[ac.out];rintro e v1 ⟨rfl,a0⟩;have z0:=za a0 z0;have z1:=za a0 z1;have z2:=za a0 z2;have z3:=za a0 z3;have z4:=za a0 z4;have z5:=za a0 z5;have z6:=za a0 z6;have z7:=za a0 z7;have y0:=za a0 y0;have y1:=za a0 y1;have x0:=za a0 x0;have cc:=za a0 cc) | (go_at_call 101;(with_reducible refine(zf5 (x:=z) (Ty.up _ hp (a1.trans (a0.trans gF))) hpl (Ty.up _ aB (a0.trans gF)) a3).mono ?_);rintro e v2 ⟨rfl,a5⟩;have y0:=za a5 y0;have y1:=za a5 y1;have x0:=za a5 x0;have cc:=za a5 cc));go_roundw;exact⟨q+1,j+1,by go_num,hqn,by omega,fE (by rw[HQJ.out];omega),fE ((a2.out.trans a0).trans a5),aV⟩;exact gL
       ·have am:((zN p z.Item level).toList == nm.toList)=U:=by rw[mw];simpa using hnz
        have HNO:=fE (show ∀ u,xs[k+1+j]?=H u->lP p level x.Item.fH (zN p x.Item level) u=U from fun u hu=>by rw[ap.out] at hu;injection hu with hu;rw[<-hu,ao.out,ac.out,HNM.out];simpa using hnz);clear hnz;go_wp2_with(first | (go_at_call 102;(with_reducible refine a6.mono ?_);rw[ac.out];rintro e v1 ⟨rfl,a0⟩;have z0:=za a0 z0;have z1:=za a0 z1;have z2:=za a0 z2;have z3:=za a0 z3;have z4:=za a0 z4;have z5:=za a0 z5;have z6:=za a0 z6;have z7:=za a0 z7;have y0:=za a0 y0;have y1:=za a0 y1;have x0:=za a0 x0;have cc:=za a0 cc) | (go_at_call 101;(with_reducible refine(zf5 (x:=z) (Ty.up _ hp (a1.trans (a0.trans gF))) hpl (Ty.up _ aB (a0.trans gF)) a3).mono ?_);rintro e v2 ⟨rfl,a5⟩;have y0:=za a5 y0;have y1:=za a5 y1;have x0:=za a5 x0;have cc:=za a5 cc));have HGT:=fE (a2.out.trans (a0.trans a5));exact tN
      | false=>
       have HNO:=fE (show ∀ u,xs[k+1+j]?=H u->lP p level x.Item.fH (zN p x.Item level) u=U from fun u hu=>by rw[ap.out] at hu;injection hu with hu;rw[<-hu,ao.out,ac.out];rfl);go_wp2_with(first | (go_at_call 102;(with_reducible refine a6.mono ?_);rw[ac.out];rintro e v1 ⟨rfl,a0⟩;have z0:=za a0 z0;have z1:=za a0 z1;have z2:=za a0 z2;have z3:=za a0 z3;have z4:=za a0 z4;have z5:=za a0 z5;have z6:=za a0 z6;have z7:=za a0 z7;have y0:=za a0 y0;have y1:=za a0 y1;have x0:=za a0 x0;have cc:=za a0 cc));have HGT:=fE (a2.out.trans a0);exact tN
     ·have ax:¬ ((q:Int)+1<(xs.length:Int)):=by omega
      have HNO:=fE (show ∀ u,xs[k+1+j]?=H u->lP p level x.Item.fH (zN p x.Item level) u=U from fun u hu=>by have h1:=(Lh.1 hu).1;have h2:=HQJ.out;omega);go_wp2_with(fail);have HGT:=fE (a2.out);exact tN
   ·have aw:(x.Item.fH.length:Int)<=(level:Int):=by omega
    exact sz
  ·obtain rfl:k=xs.length:=by omega
   exact rZ
 ·obtain rfl:level=m:=by omega
  have b7:¬ ((level:Int)<(level:Int)):=by omega
  have HQ:Hid (a7=zS p xs):=fE (by rw[<-aD.out,Mq];simp);go_wp2_with(fail);exact Ln (v:=J an a7.length aq) (by simp[Ly,results39,go_sem]) rfl (by rw[<-HQ.out];exact⟨an,aq,S0,rfl,aG.out,aH.out,aE.out⟩)
end Go.Proofs.YtiihkapmggfjkaaGreat
