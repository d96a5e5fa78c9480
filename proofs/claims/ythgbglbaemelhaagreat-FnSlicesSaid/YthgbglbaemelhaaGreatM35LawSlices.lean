/-
  PART.
-/
import Derived.Test.YthgbglbaemelhaaGreatM34LawSlices
set_option linter.unusedVariables false
set_option linter.unusedSimpArgs false
set_option maxRecDepth 100000
set_option maxHeartbeats 8000000
namespace Go.Proofs.YthgbglbaemelhaaGreat
open Value renaming slice->G,int->J,bool->H,string->V
open IntKind renaming i64->C,wrap->QP
open Option renaming none->D,some->Z
open Obj renaming cells->F
open Bool renaming false->I,true->M
open Go renaming World->U,results->Rd,Calls->Rh,Addr->Ri
open World renaming cell?->QL
open List renaming length_cons->Rc,getElem?_cons_zero->RA,getElem?_cons_succ->Sw,range'->TK
open RowKit renaming intOf->Ry
open _root_.Nat renaming add_zero->RK
open Tryz
open Go.RowKit
variable {A B:X Ri}{QE c d i j k l level n:Nat}{a b:Q Int}{p:Q fv}{w:U}{x y:fL}{xs:Q fL}
theorem Jz {xs:Q fv} {x:fv} (h:xs[i]?=Z x)(hi:i<=k)(s:N):vL (xs.drop i) (k+1-i) s=vL (xs.drop (i+1)) (k+1-(i+1)) (if x.Kind=0 then x.Name else s):=by
 obtain⟨h1,rfl⟩:=QM.1 h;rw[Q6 h1,show k+1-i=k+1-(i+1)+1 from by omega];rfl
theorem Eu {k:Int} (h:¬ (0<=k/\k<p.length)):pg p k=emp:=QZ h
theorem JZ (h:k<p.length):pg p (k:Int)=vL p (k+1) emp:=by
 unfold pg;rw[Q5 ⟨by omega,by omega⟩];rfl
theorem uv {g:Prop} (f:g:=by
  go_enter func22,ntmps22
  go_wp2_with(fail)
  go_loopw [5,6] (fun z j wr=>z=V emp/\j=J C 0/\Hid (ft w wr)) (fun _ j _=>0)
  case atStart=>exact⟨rfl,rfl,fh gF⟩
  case round=>
   obtain⟨rfl,rfl,hG⟩:=hrel
   go_wp2_with(fail)
   go_ret
   exact⟨mH HL.out.symm,hG.out⟩):g:=f
theorem zk8 {k:Int} (hx:(zJ.sl 99).R w w.heap.size [G A p.length c] p)(hl:p.length<=1000000) :
  Rh prog 22 #[G A p.length c,J C k] w fun e w'=>e=.returned (V (pg p k))/\ft w w':=by
 by_cases hk0:0<=k
 ·by_cases hkl:k<p.length
  ·obtain⟨n,rfl⟩:=Rl hk0
   have a5:n<p.length:=by omega
   have HL:=fh (JZ a5);go_enter func22,ntmps22;go_wp2_with(fail);go_loopw [5,6] (fun z j wr=>∃(i:Nat) (s:N),z=V s/\j=J C i/\i<=n+1/\Hid (ft w wr)/\Hid (vL (p.drop i) (n+1-i) s=pg p n)) (fun _ j _=>n+1-(Ry j).toNat)
   case atStart=>exact⟨0,_,rfl,rfl,QX _,fh gF,fh HL.out.symm⟩
   case round=>
    obtain⟨i,s,rfl,rfl,hi,hG,hN⟩:=hrel;by_cases hle:i<=n
    ·have a4:i<p.length:=by omega
     obtain⟨g,ad,x,a6,a8,a7,a9,rfl,aa,a0,x0,x1,x2,x3,b0,b1,_⟩:=lK hx a4;have a2:(i:Int)<=(n:Int):=by omega
     have ab:(i:Int)<(p.length:Int):=by omega
     have ac:QP C ((i:Int)+1)=(i:Int)+1:=iw;have x0:=za hG.out x0;have x1:=za hG.out x1;have HA:=fh (Jz a0 hle s);clear a0;by_cases h0:x.Kind=0
     ·have a1:(x.Kind == 0)=M:=Rt.2 h0
      have HS:Hid ((if x.Kind=0 then x.Name else s)=x.Name):=fh (Q5 h0);clear h0;go_wp2_with(fail);go_roundw;exact⟨i+1,x.Name,rfl,by go_num,by omega,hG,fh (by rw[<-hN.out,HA.out,HS.out])⟩;exact gH
     ·have a1:(x.Kind == 0)=I:=QV.2 h0
      have HS:Hid ((if x.Kind=0 then x.Name else s)=s):=fh (QZ h0);clear h0;go_wp2_with(fail);go_roundw;exact⟨i+1,s,rfl,by go_num,by omega,hG,fh (by rw[<-hN.out,HA.out,HS.out])⟩;exact gH
    ·obtain rfl:i=n+1:=by omega
     have a2:¬ ((n:Int)+1<=(n:Int)):=by omega
     have a3:¬ (((n+1:Nat):Int)<=(n:Int)):=by omega
     have HE:Hid (s=pg p n):=fh (by rw[<-hN.out,RP];cases p.drop (n+1) <;> rfl);go_wp2_with(fail);go_ret;exact⟨mH HE.out,hG.out⟩
  ·have HL:Hid (pg p k=emp):=fh (Eu (fun h=>hkl h.2))
   exact uv
 ·have HL:Hid (pg p k=emp):=fh (Eu (fun h=>hk0 h.1))
  exact uv
def qD (a b:Q Int)(n:Nat):Bool:=decide (n<=a.length) && (decide (n<=b.length) && decide (a.take n=b.take n))
theorem N3 {x:Int} (h:a.take i=b.take i)(ha:a[i]?=Z x)(hb:b[i]?=Z x):a.take (i+1)=b.take (i+1):=by
 rw[RH,RH,ha,hb,h]
theorem N4 {x y:Int} (ha:a[i]?=Z x)(hb:b[i]?=Z y)(hn:i<n)(h:x≠y):a.take n≠b.take n:=by
 intro he;have h1:=Sg (fun l=>l[i]?) he;simp only[Sn,hn,Tk,ha,hb] at h1;injection h1 with h1
 exact h h1
theorem zwM (hx:(zr.sl 3).R w w.heap.size [G A a.length c] a)(hy:(zr.sl 3).R w w.heap.size [G B b.length d] b)(hn:n<=1000000) :
  Rh prog 170 #[G A a.length c,G B b.length d,J C n] w fun e w'=>e=.returned (H (qD a b n))/\ft w w':=by
 by_cases ha:n<=a.length
 ·have a2:¬ ((a.length:Int)<(n:Int)):=by omega
  by_cases hb:n<=b.length
  ·have a3:¬ ((b.length:Int)<(n:Int)):=by omega
   have HS:Hid (qD a b n=decide (a.take n=b.take n)):=fh (by unfold qD;simp[ha,hb]);go_enter func170,ntmps170;go_wp2_with(fail);go_loopw [7] (fun j wr=>∃ i:Nat,j=J C i/\i<=n/\Hid (ft w wr)/\Hid (a.take i=b.take i)) (fun j _=>n-(Ry j).toNat)
   case atStart=>exact⟨0,rfl,QX _,fh gF,fh rfl⟩
   case round=>
    obtain⟨i,rfl,hi,hG,hT⟩:=hrel;by_cases hlt:i<n
    ·obtain⟨ga,oa,x,rfl,a0,xa,_⟩:=lI hx (QS hlt ha)
     obtain⟨gb,ob,y,rfl,a1,yb,_⟩:=lI hy (QS hlt hb);have a4:(i:Int)<(n:Int):=by omega
     have a6:(i:Int)<(a.length:Int):=by omega
     have a7:(i:Int)<(b.length:Int):=by omega
     have a8:QP C ((i:Int)+1)=(i:Int)+1:=iw;have xa:=za hG.out xa;have yb:=za hG.out yb;by_cases he:x=y
     ·have a5:(x != y)=I:=by simp[he]
      have HT:Hid (a.take (i+1)=b.take (i+1)):=fh (N3 hT.out a0 (by rw[he];exact a1));clear he a0 a1;go_wp2_with(fail);go_quiet (fail);go_wp2_with(fail);go_roundw;exact⟨i+1,by go_num,by omega,fh (hG.out.trans gF),HT⟩;exact gH
     ·have a5:(x != y)=M:=by simp[he]
      have HT:Hid (qD a b n=I):=fh (by rw[HS.out,QT (N4 a0 a1 hlt he)]);clear he a0 a1;go_wp2_with(fail);go_quiet (fail);go_wp2_with(fail);go_ret;exact⟨zo HT.out.symm,hG.out.trans gF⟩
    ·obtain rfl:i=n:=by omega
     have a4:¬ ((i:Int)<(i:Int)):=by omega
     have HT:Hid (qD a b i=M):=fh (by rw[HS.out,QY hT.out]);go_wp2_with(fail);go_ret;exact⟨zo HT.out.symm,hG.out⟩
  ·have a3:(b.length:Int)<(n:Int):=by omega
   have HS:Hid (qD a b n=I):=fh (by unfold qD;simp[hb]);go_enter func170,ntmps170;go_wp2_with(fail);go_ret;exact⟨zo HS.out.symm,gG⟩
 ·have a2:(a.length:Int)<(n:Int):=by omega
  have HS:Hid (qD a b n=I):=fh (by unfold qD;simp[ha]);go_enter func170,ntmps170;go_wp2_with(fail);go_ret;exact⟨zo HS.out.symm,gG⟩
theorem JY {x:fP} {y:Int} (h:x.fB[l+1]?=Z y):kP p x l=pg p y:=by
 unfold kP;rw[Q5 (QM.1 h).1,RG,h];rfl
theorem Jk {x:fP} (h:¬ l+1<x.fB.length):kP p x l=pg p x.fH:=QZ h
theorem zgS {A5:X Ri} {c5:Nat} (hx:(zJ.sl 99).R w w.heap.size [G A p.length c] p)(hl:p.length<=1000000)(hc:(zr.sl 3).R w w.heap.size [G A5 x.Item.fB.length c5] x.Item.fB)(hll:l<=1000) :
  Rh prog 169 #[G A p.length c,.agg #[J C x.Offset,J C x.Item.Op.Code,J C x.Item.Op.Arg,J C x.Item.fH,H x.Item.Start,G A5 x.Item.fB.length c5,J C x.Item.fE,H x.Item.fF],J C l] w fun e w'=>e=.returned (V (kP p x.Item l))/\ft w w':=by
 have a6:QP C ((l:Int)+1)=(l:Int)+1:=iw;by_cases h:l+1<x.Item.fB.length
 ·obtain⟨gc,oc,y,rfl,a2,yc,_⟩:=lI hc h
  have a3:=RE _ _ yc;simp only at a3;have a4:(x.Item.fB.length:Int) > (l:Int)+1:=by omega
  have a1:(l:Int)+1<(x.Item.fB.length:Int):=by omega
  have a5:((l:Int)+1).toNat=l+1:=by omega
  have HN:=fh (JY (p:=p) a2);clear a2;go_enter func169,ntmps169;go_wp2_with(first | (go_at_call 22;(with_reducible refine(zk8 (k:=y) (Ty.up _ hx gF) hl).mono ?_);rw[<-HN.out];rintro e w1 ⟨rfl,a0⟩));go_ret;exact⟨rfl,ft.trans (b:=_) gF a0⟩
 ·have a4:¬ ((x.Item.fB.length:Int) > (l:Int)+1):=by omega
  have a1:¬ ((l:Int)+1<(x.Item.fB.length:Int)):=by omega
  have HN:=fh (Jk (p:=p) h);go_enter func169,ntmps169;go_wp2_with(first | (go_at_call 22;(with_reducible refine(zk8 (k:=x.Item.fH) (Ty.up _ hx gF) hl).mono ?_);rw[<-HN.out];rintro e w1 ⟨rfl,a0⟩));go_ret;exact⟨rfl,ft.trans (b:=_) gF a0⟩
def pH (p:Q fv)(level:Nat)(l:Q fL):Q fQ:=nR p level l.length l
theorem Ju (p:Q fv)(level:Nat):∀(n:Nat)(l:Q fL),l.length<=n->nR p level n l=nR p level l.length l:=by
 intro n;induction n using Nat.strongRecOn with
 | ind n ih=>
  intro l hl;cases l with
  | nil=>cases n <;> rfl
  | cons x r=>
   obtain⟨n,rfl⟩:∃ m,n=m+1:=⟨n-1,by simp at hl;omega⟩
   simp only[Rc] at hl;show nR p level (n+1) (x::r)=nR p level (r.length+1) (x::r);unfold nR;split
   ·simp only
    congr 1;have hd:(r.drop (r.takeWhile (pz p level x.Item.fB (kP p x.Item level))).length).length<=r.length:=by rw[SU];omega
    rw[ih n (by omega) _ (by omega)];by_cases hr:r.length=n
    ·subst hr
     rw[ih _ (by omega) _ hd]
    ·rw[ih r.length (by omega) _ hd]
   ·rw[ih n (by omega) r (by omega)]
def wW (p:Q fv)(level:Nat)(x y:fL):fQ:=⟨x.Offset,y.Offset+zL y.Item.Op.Code,level,x.Item.fB.getD level 0,kP p x.Item level⟩
theorem Mz (hx:xs[k]?=Z x)(h:¬ level<x.Item.fB.length):pH p level (xs.drop k)=pH p level (xs.drop (k+1)):=by
 obtain⟨h1,rfl⟩:=QM.1 hx;unfold pH;rw[Q6 h1,Rc]
 conv=>lhs;unfold nR
 rw[QZ h]
def jE (f:fL->Bool)(xs:Q fL)(k j:Nat):Prop:=(xs.drop (k+1)).takeWhile f=(xs.drop (k+1)).take j++(xs.drop (k+1+j)).takeWhile f
theorem LL (f:fL->Bool)(xs:Q fL)(k:Nat):jE f xs k 0:=by unfold jE;simp
theorem jE.next {f:fL->Bool} (h:jE f xs k j)(hy:xs[k+1+j]?=Z y)(hf:f y=M):jE f xs k (j+1):=by
 unfold jE at h |-;obtain⟨h1,rfl⟩:=QM.1 hy;rw[h,Q6 h1,List.takeWhile_cons_of_pos hf,RH];have:(xs.drop (k+1))[j]?=Z xs[k+1+j]:=by rw[Tw];exact hy
 rw[this];simp[UW]
theorem jE.done (h:jE (pz p level x.Item.fB (kP p x.Item level)) xs k j)(hx:xs[k]?=Z x)(hl:level<x.Item.fB.length)(hy:xs[k+j]?=Z y)
  (hend:∀ z,xs[k+1+j]?=Z z->pz p level x.Item.fB (kP p x.Item level) z=I):pH p level (xs.drop k)=wW p level x y::pH p level (xs.drop (k+1+j)):=by
 obtain⟨h1,rfl⟩:=QM.1 hx;have a7:=(QM.1 hy).1
 have a0:(xs.drop (k+1+j)).takeWhile (pz p level xs[k].Item.fB (kP p xs[k].Item level)) = []:=by
  cases hz:xs[k+1+j]? with
  | none=>
   rw[SX (R6.1 hz)];rfl
  | some z=>
   have a6:=hend z hz;obtain⟨g1,rfl⟩:=QM.1 hz;rw[Q6 g1,List.takeWhile_cons_of_neg (by rw[a6];simp)]
 have a3:(xs.drop (k+1)).takeWhile (pz p level xs[k].Item.fB (kP p xs[k].Item level))=(xs.drop (k+1)).take j:=by
  have:=h;unfold jE at this;rw[this,a0,SC]
 have a5:((xs.drop (k+1)).take j).length=j:=by rw[Sj,SU];omega
 have a1:∀ a4:(xs[k]::(xs.drop (k+1)).take j)≠[],(xs[k]::(xs.drop (k+1)).take j).getLast a4=y:=by
  intro a4;rw[List.getLast_eq_getElem];have a8:(xs[k]::(xs.drop (k+1)).take j).length-1=j:=by rw[Rc,a5];omega
  have a2:(xs[k]::(xs.drop (k+1)).take j)[j]?=Z y:=by
   cases j with
   | zero=>
    rw[RK,QW h1] at hy;rw[RA];exact hy
   | succ j=>
    rw[Sw,Sn,Q5 (by omega),Tw,show k+1+j=k+(j+1) from by omega];exact hy
  obtain⟨q1,q2⟩:=QM.1 a2;rw[<-q2];congr 1
 unfold pH;rw[Q6 h1,Rc]
 conv=>lhs;unfold nR
 rw[Q5 hl];simp only[a3,a5];rw[a1];show wW p level xs[k] y::_=_;congr 1;rw[TH];rw[Ju p level _ _ (by simp only[SU];omega)]
theorem JA (h:∀ x∈p,x.Name.size<=QE)(k:Int):(pg p k).size<=QE:=by
 have a0:∀(l:Q fv) (n:Nat) (s:N),(∀ x∈l,x.Name.size<=QE)->s.size<=QE->(vL l n s).size<=QE:=by
  intro l;induction l with
  | nil=>intro n s _ hs;cases n <;> exact hs
  | cons x r ih=>
   intro n s hl hs;cases n with
   | zero=>exact hs
   | succ n=>
    refine ih n _ (fun y hy=>hl y (.tail _ hy)) ?_;split
    ·exact hl x (.head _)
    ·exact hs
 unfold pg;split
 ·exact a0 _ _ _ h (QX _)
 ·exact QX _
theorem I4 (h:∀ x∈p,x.Name.size<=QE)(x:fP)(l:Nat):(kP p x l).size<=QE:=by
 unfold kP;split <;> exact JA h _
theorem PC (h:xs[k]?=Z x)(m:Nat):(xs.drop k).foldl (fun n x=>max n x.Item.fB.length) m=(xs.drop (k+1)).foldl (fun n x=>max n x.Item.fB.length) (max m x.Item.fB.length):=GJ (f:=fun n (x:fL)=>max n x.Item.fB.length) h
theorem MH (h:level<n):(TK level (n-level)).flatMap (fun lv=>pH p lv xs)=pH p level xs++(TK (level+1) (n-(level+1))).flatMap (fun lv=>pH p lv xs):=by
 rw[show n-level=n-(level+1)+1 from by omega,List.range'_succ];rfl
theorem Ji (h1:zv p=M)(h2:pY xs=M):ma p xs=(TK 0 (sP xs-0)).flatMap (fun lv=>pH p lv xs):=by
 unfold ma;rw[Q5 ⟨h1,h2⟩,List.range_eq_range'];rfl
def Oe (xs:Q fQ)(w:U)(r:Ending)(w':U):Prop:=∃ A c S,r=.returned (G A xs.length c)/\Has (kE.sl 214) w' [G A xs.length c] xs S/\(∀ b∈S,w.heap.size<=b)/\ft w w'
theorem NM {chain:Q Int} {name:N} (hl:level<chain.length):pz p level chain name y=(qD chain y.Item.fB (level+1) && decide (kP p y.Item level=name)):=by
 unfold pz qD;by_cases h1:level<y.Item.fB.length
 ·have h2:level+1<=y.Item.fB.length:=h1
  have h3:level+1<=chain.length:=hl;simp only[h1,h2,h3,decide_true,Tr];by_cases h4:y.Item.fB.take (level+1)=chain.take (level+1)
  ·simp[h4]
  ·have h5:¬ chain.take (level+1)=y.Item.fB.take (level+1):=fun h=>h4 h.symm
   simp[h4,h5]
 ·have h2:¬ level+1<=y.Item.fB.length:=h1
  simp[h1,h2]
theorem Jc (c:Int)(w:U)(n:Nat):Rh prog 167 #[J C c] (w.drewN n) fun e w''=>e=.returned (J C (zL c))/\∃ m,w''=w.drewN m:=BX (zfT _ _)
theorem BQ (p:Q fv)(level:Nat):∀(n:Nat)(l:Q fL),(nR p level n l).length<=n
 | 0,_=>Q8 _
 | n+1,[]=>QX _
 | n+1,x::r=>by
  unfold nR;split
  ·simp only[Rc]
   have:=BQ p level n (r.drop (r.takeWhile (pz p level x.Item.fB (kP p x.Item level))).length);omega
  ·have:=BQ p level n r
   omega
theorem gj {α β:Type}{f:α->Q β}{QK:Nat}(h:∀ a,(f a).length<=QK):∀ l:Q α,(l.flatMap f).length<=l.length*QK
 | []=>by simp
 | a::l=>by
  have h1:=h a;have h2:=gj h l;rw[List.flatMap_cons,QR,Rc,UN];omega
theorem Dh {QE:Nat}:∀(xs:Q fL)(m:Nat),m<=QE->(∀ x∈xs,x.Item.fB.length<=QE)->xs.foldl (fun n x=>max n x.Item.fB.length) m<=QE
 | [],m,h,_=>h
 | x::r,m,h,hx=>Dh r _ (Nat.max_le.2 ⟨h,hx x (.head _)⟩) (fun y hy=>hx y (.tail _ hy))
theorem Jh (hl:xs.length<=100000)(hc:∀ x∈xs,x.Item.fB.length<=100):(ma p xs).length<=10000000:=by
 unfold ma;split
 ·have h1:=gj (f:=fun level=>nR p level xs.length xs) (QK:=xs.length) (fun a=>BQ p a _ _) (List.range (sP xs))
  have h2:sP xs<=100:=Dh xs 0 (by omega) hc;rw[List.length_range] at h1;have h3:sP xs*xs.length<=100*100000:=UD h2 hl;omega
 ·exact QX _
theorem Jx {B:Nat} {cl:Int} {nm:N} (hc:x.Item.fB.getD level 0=cl)(hn:kP p x.Item level=nm)(h0:fD x.Offset)(h1:fD (y.Offset+zL y.Item.Op.Code))(h2:fD (level:Int))(h3:fD cl)(h4:(kP p x.Item level).size<=9223372036854775807) :
  kE.R w B [J C x.Offset,J C (y.Offset+zL y.Item.Op.Code),J C level,J C cl,V nm] (wW p level x y):=by
 subst hc;subst hn;exact EG (x:=wW p level x y) h0 h1 h2 h3 h4
theorem wh {g:Prop} (f:g:=by
  have HD:=fh (jE.done hRun.out HXK.out hlv HYJ.out HNO.out)
  have hlen9:acc.length+1<=100000000:=by
   have h:=Sg List.length hA.out
   rw[HD.out] at h
   simp only[QR,Rc] at h
   have h2:=HTL.out
   omega
  have hgwT:g<_:=QS hgw (hG.out.trans HGT.out).size
  have hgcwT:gc<_:=QS hgcw (hG.out.trans HGT.out).size
  go_upto_region 21 with(fail)
  go_quiet ((first | (go_at_call 167;with_reducible exact Jc _ _ _)))
  go_upto_region 22 with(fail)
  go_region_held3 (fun w'=>QL w' ⟨g,off+k*8,D⟩=Z (J C x.Offset)/\QL w' ⟨gc,oc+level,D⟩=Z (J C cl)) ((repeat' apply QQ) <;> ((repeat (first | with_reducible assumption | with_reducible refine zd ?_ _ _ | with_reducible refine zk ?_ _ | with_reducible refine zc ?_ | with_reducible refine zV ?_ _));done)) (first | (refine zW (L:=acc.length+1) rfl (.tmp 114) (.tmp 128) DX DC ((hH.out.fx HGT.out).fx gF) (W1:=w) (B:=0) (ec:=[J C x.Offset,J C (y.Offset+zL y.Item.Op.Code),J C level,J C cl,V nm]) (y:=wW p level x y) (Jx HCL.out HNM.out b0 hyI ⟨by omega,by omega⟩ hclI (I4 hnm _ _)) rfl rfl rfl (by intro j u hu;simpa[go_sem] using hu) rfl (by omega) (by omega) ?_;intro A8 c8 W8 S8 hon hH8 hS8;have x0:=(hon.cell (g:=g) (QS hgwT (ft.size gF)) hgS _).trans (za gF x0);have cc:=(hon.cell (g:=gc) (QS hgcwT (ft.size gF)) hgcS _).trans (za gF cc)))
  all_goals go_wp2_with(fail)
  all_goals go_roundw
  exact⟨q+1,acc++[wW p level x y],A8,c8,S8,by rw[QR];rfl,by go_num,by omega,fh (hon.fx ((hG.out.trans HGT.out).trans gF) hS.out),fh (by rw[QR];exact hH8),fh (fun b hb=>(hS8 b hb).elim (hS.out b) (fun h=>Rj (ft.size ((hG.out.trans HGT.out).trans gF)) h)),fh (by rw[<-hA.out,HD.out,Rw,show k+1+j=q+1 from by rw[HQJ.out];omega];rfl)⟩
  exact gH):g:=f
theorem zo2 (hp:(zJ.sl 99).R w w.heap.size [G A p.length c] p)(hpl:p.length<=1000000)(hps:∀ x∈p,x.fM.length<=1099511627776/\x.Expr.length<=1099511627776)(hnm:∀ x∈p,x.Name.size<=9223372036854775807)
  (hx:(tC.sl 229).R w w.heap.size [G B xs.length d] xs) (hl:xs.length<=100000) (hch:∀ x∈xs,x.Item.fB.length<=100) :
  Rh prog 128 #[G A p.length c,G B xs.length d] w (Oe (ma p xs) w):=by
 obtain⟨pb,aP⟩:∃ b,zv p=b:=⟨_,rfl⟩
 have ah:=fh aP;clear aP;have ab:p.length<=1099511627776:=by omega
 have aN:xs.length<=1000000:=by omega
 cases pb with
 | false=>
  have HE:Hid (ma p xs = []):=fh (by unfold ma;rw[QZ (by rw[ah.out];simp)]);go_enter func128,ntmps128;go_wp2_with(first | (go_at_call 102;(with_reducible refine(zaD (Ty.up _ hp gF) ab hps).mono ?_);rw[ah.out];rintro e w1 ⟨rfl,a8⟩));exact QU (v:=G (Z ⟨w.heap.size,0,D⟩) 0 0) (by simp[Rd,results128,go_sem]) rfl (by rw[HE.out];exact⟨_,0,[w.heap.size],rfl,Has.emp kE (zj (QO w (F #[] 214)) (ft.trans (b:=_) gF a8)),fun b hb=>by simp only[QN] at hb;omega,ft.trans (b:=_) gF a8⟩)
 | true=>
 obtain⟨nb,an⟩:∃ b,pY xs=b:=⟨_,rfl⟩
 have ag:=fh an;clear an;cases nb with
 | false=>
  have HE:Hid (ma p xs = []):=fh (by unfold ma;rw[QZ (by rw[ag.out];simp)]);go_enter func128,ntmps128;go_wp2_with(first | (go_at_call 102;(with_reducible refine(zaD (Ty.up _ hp gF) ab hps).mono ?_);rw[ah.out];rintro e w1 ⟨rfl,a8⟩) | (go_at_call 168;(with_reducible refine(znO (Ty.up _ hx (ft.trans (b:=_) gF a8)) aN).mono ?_);rw[ag.out];rintro e w2 ⟨rfl,am⟩));exact QU (v:=G (Z ⟨w.heap.size,0,D⟩) 0 0) (by simp[Rd,results128,go_sem]) rfl (by rw[HE.out];exact⟨_,0,[w.heap.size],rfl,Has.emp kE (zj (QO w (F #[] 214)) (ft.trans (b:=_) gF (a8.trans am))),fun b hb=>by simp only[QN] at hb;omega,ft.trans (b:=_) gF (a8.trans am)⟩)
 | true=>
 have HE:=fh (Ji ah.out ag.out);have HTL:=fh (Jh (p:=p) hl hch);obtain⟨QA,hD⟩:∃ QA,sP xs=QA:=⟨_,rfl⟩
 have bk:QA<=100:=by rw[<-hD];exact Dh xs 0 (by omega) hch
 have aD:=fh hD;clear hD;have aX:=fh hch;clear hch;go_enter func128,ntmps128;go_wp2_with(first | (go_at_call 102;(with_reducible refine(zaD (Ty.up _ hp gF) ab hps).mono ?_);rw[ah.out];rintro e w1 ⟨rfl,a8⟩) | (go_at_call 168;(with_reducible refine(znO (Ty.up _ hx (ft.trans (b:=_) gF a8)) aN).mono ?_);rw[ag.out];rintro e w2 ⟨rfl,am⟩));have HW:=fh (a8.trans am);go_loopw [6,7] (fun z6 z7 wr=>∃(k m:Nat),z6=J C m/\z7=J C k/\k<=xs.length/\m<=100/\Hid (ft w2 wr)/\Hid ((xs.drop k).foldl (fun n x=>max n x.Item.fB.length) m=QA)) (fun _ z7 _=>xs.length-(Ry z7).toNat)
 case atStart=>exact⟨0,0,rfl,rfl,QX _,QX _,fh gF,aD⟩
 case round=>
 obtain⟨k,m,rfl,rfl,hk,hm,ai,hN⟩:=hrel;by_cases hlt:k<xs.length
 ·obtain⟨g,off,x,aT,b7,rfl,bl,ae,x0,x1,x2,x3,x4,x5,x6,x7,_⟩:=sN hx hlt
  have aM:(k:Int)<(xs.length:Int):=by omega
  have be:QP C ((k:Int)+1)=(k:Int)+1:=iw;have al:=aX.out x (Q9 ae);have x5:=za ((ft.trans (b:=_) gF HW.out).trans ai.out) x5;have HA:=fh (PC ae m);clear ae;by_cases hmx:m<x.Item.fB.length
  ·have bc:(m:Int)<(x.Item.fB.length:Int):=by omega
   have HM:Hid (max m x.Item.fB.length=x.Item.fB.length):=fh (Nat.max_eq_right (by omega));go_wp2_with(fail);go_roundw;exact⟨k+1,x.Item.fB.length,rfl,by go_num,by omega,al,ai,fh (by rw[<-hN.out,HA.out,HM.out])⟩;exact gH
  ·have bc:¬ ((m:Int)<(x.Item.fB.length:Int)):=by omega
   have HM:Hid (max m x.Item.fB.length=m):=fh (Nat.max_eq_left (by omega));go_wp2_with(fail);go_roundw;exact⟨k+1,m,rfl,by go_num,by omega,hm,ai,fh (by rw[<-hN.out,HA.out,HM.out])⟩;exact gH
 obtain rfl:k=xs.length:=by omega
 have av:¬ ((xs.length:Int)<(xs.length:Int)):=by omega
 obtain rfl:m=QA:=by have h:=hN.out;rw[Rq] at h;exact h
 have aK:ft w wr:=(ft.trans (b:=_) gF HW.out).trans ai.out;have aG:Has (kE.sl 214) wr [G (Z ⟨w.heap.size,0,D⟩) 0 0] [] [w.heap.size]:=Has.emp kE (zj (QO w (F #[] 214)) (HW.out.trans ai.out));have b4:=fh aG;have aZ:=fh aK;clear aG aK;go_wp2_with(fail);clear av;go_loopw [5,8] (fun z5 z8 wr=>∃(level:Nat) (acc:Q fQ) (A5:X Ri) (c5:Nat) (S:Q Nat),z5=G A5 acc.length c5/\z8=J C level/\level<=m/\Hid (ft w wr)/\Hid (Has (kE.sl 214) wr [G A5 acc.length c5] acc S)/\Hid (∀ b∈S,w.heap.size<=b)/\Hid (acc++(TK level (m-level)).flatMap (fun lv=>pH p lv xs)=ma p xs)) (fun _ z8 _=>m-(Ry z8).toNat)
 case atStart=>exact⟨0,[],_,0,[w.heap.size],rfl,rfl,QX _,aZ,b4,fh (fun b hb=>by simp only[QN] at hb;omega),fh (by rw[HE.out,aD.out];rfl)⟩
 case round=>
 obtain⟨level,a7,ao,ar,S0,rfl,rfl,bn,aF,aH,aI,aE⟩:=hrel;by_cases hlt:level<m
 ·have bb:(level:Int)<(m:Int):=by omega
  have bf:QP C ((level:Int)+1)=(level:Int)+1:=iw;obtain⟨a9,a4⟩:∃ R,(TK (level+1) (m-(level+1))).flatMap (fun lv=>pH p lv xs)=R:=⟨_,rfl⟩
  have HR:=fh a4;have aW:Hid (a7++(pH p level (xs.drop 0)++a9)=ma p xs):=fh (by rw[<-aE.out,MH hlt,a4];rfl);have a3:level<=1000:=by omega
  have aw:level+1<=1000000:=by omega
  clear a4;go_wp2_with(fail);go_loopw [5,9] (fun z5 z9 wr=>∃(k:Nat) (acc:Q fQ) (A5:X Ri) (c5:Nat) (S:Q Nat),z5=G A5 acc.length c5/\z9=J C k/\k<=xs.length/\Hid (ft w wr)/\Hid (Has (kE.sl 214) wr [G A5 acc.length c5] acc S)/\Hid (∀ b∈S,w.heap.size<=b)/\Hid (acc++(pH p level (xs.drop k)++a9)=ma p xs)) (fun _ z9 _=>xs.length-(Ry z9).toNat)
  case atStart=>exact⟨0,a7,ao,ar,S0,rfl,rfl,QX _,aF,aH,aI,aW⟩
  case round=>
  obtain⟨k,acc,A5,c5,S,rfl,rfl,hk,hG,hH,hS,hA⟩:=hrel;by_cases hlt:k<xs.length
  ·obtain⟨g,off,x,aT,b7,rfl,hgw,ae,x0,x1,x2,x3,x4,x5,x6,x7,b0,b1,b2,b3,h5,b6⟩:=sN hx hlt
   have aM:(k:Int)<(xs.length:Int):=by omega
   have be:QP C ((k:Int)+1)=(k:Int)+1:=iw;have x0:=za hG.out x0;have x1:=za hG.out x1;have x2:=za hG.out x2;have x3:=za hG.out x3;have x4:=za hG.out x4;have x5:=za hG.out x5;have x6:=za hG.out x6;have x7:=za hG.out x7;have HXK:=fh ae;clear ae;by_cases hlv:level<x.Item.fB.length
   ·have ax:¬ ((x.Item.fB.length:Int)<=(level:Int)):=by omega
    have aO:(level:Int)<(x.Item.fB.length:Int):=by omega
    obtain⟨gc,oc,cl,au,al,cc,hclI⟩:=lI h5 hlv;have hgcw:=RE _ _ cc;simp only at hgcw;have cc:=za hG.out cc;have HCL:Hid (x.Item.fB.getD level 0=cl):=fh (by rw[RG,al];rfl);have hgS:g∉S:=fun hm=>by have h:=hS.out g hm;omega
    have hgcS:gc∉S:=fun hm=>by have h:=hS.out gc hm;omega
    have az:=Ty.up _ h5 hG.out;obtain⟨nm,ak⟩:∃ s,kP p x.Item level=s:=⟨_,rfl⟩
    have HNM:=fh ak;subst au;have b9:=fh hH.out;clear al ak;go_wp2_with(first | (go_at_call 169;(with_reducible refine(zgS (x:=x) (Ty.up _ hp (hG.out.trans gF)) hpl (Ty.up _ az gF) a3).mono ?_);rintro e w5 ⟨rfl,aJ⟩));have aj:ft wr w5:=ft.trans (b:=_) gF aJ;have af:=fh aj;obtain⟨wq,aR⟩:∃ q,wr=q:=⟨_,rfl⟩
    rw[aR] at hG hH af x0 x1 x2 x3 x4 x5 x6 x7 cc az b9;clear aj aJ aR;rw[HNM.out];go_loopw [11] (fun z11 wr=>∃ q j:Nat,z11=J C q/\q<xs.length/\k<=q/\Hid (q=k+j)/\Hid (ft wq wr)/\Hid (jE (pz p level x.Item.fB (kP p x.Item level)) xs k j)) (fun z11 _=>xs.length-(Ry z11).toNat)
    case atStart=>exact⟨k,0,rfl,hlt,Q8 _,fh rfl,af,fh (LL _ _ _)⟩
    case round=>
     obtain⟨q,j,rfl,bd,bm,HQJ,a2,hRun⟩:=hrel;obtain⟨g',ac,y,bi,bj,aa,_,aB,y0,y1,_,_,_,_,_,_,bt,_⟩:=sN hx bd;injection aa with aa
     injection aa with hBB1 hBB2
     obtain rfl:g=g':=hBB1;obtain rfl:off=ac:=hBB2;have bp:(q:Int)<(xs.length:Int):=by omega
     have bg:QP C ((q:Int)+1)=(q:Int)+1:=iw;have a1:=hG.out.trans a2.out;have y0:=za a1 y0;have y1:=za a1 y1;have x0:=za a2.out x0;have cc:=za a2.out cc;have aA:=Ty.up _ az a2.out;have ba:g<wr.heap.size:=by have:=a1.size;omega
     have aL:gc<wr.heap.size:=by have:=a1.size;omega
     have HYJ:Hid (xs[k+j]?=Z y):=fh (by rw[<-HQJ.out];exact aB);have bs:=F7 ag.out aB;have bo:=zt y.Item.Op.Code;have hyI:fD (y.Offset+zL y.Item.Op.Code):=⟨by omega,by omega⟩
     have br:QP C (y.Offset+zL y.Item.Op.Code)=y.Offset+zL y.Item.Op.Code:=iw;clear aB;by_cases hqn:q+1<xs.length
     ·obtain⟨g',ac,z,aU,b8,aa,_,aS,z0,z1,z2,z3,z4,z5,z6,z7,_,_,_,_,bh,_⟩:=sN hx hqn
      injection aa with aa
      injection aa with hBB1 hBB2
      obtain rfl:g=g':=hBB1;obtain rfl:off=ac:=hBB2;have ay:(q:Int)+1<(xs.length:Int):=by omega
      have bq:((q:Int)+1).toNat=q+1:=by omega
      have z0:=za a1 z0;have z1:=za a1 z1;have z2:=za a1 z2;have z3:=za a1 z3;have z4:=za a1 z4;have z5:=za a1 z5;have z6:=za a1 z6;have z7:=za a1 z7;have aC:=Ty.up _ bh a1;have aq:Hid (xs[k+1+j]?=Z z):=fh (by rw[show k+1+j=k+j+1 from by omega,<-HQJ.out];exact aS);clear aS;obtain⟨sb,aQ⟩:∃ b,qD x.Item.fB z.Item.fB (level+1)=b:=⟨_,rfl⟩
      have ad:=fh aQ;clear aQ;have ap:=fh (NM (p:=p) (name:=kP p x.Item level) (y:=z) hlv);have a6:=zwM (n:=level+1) (Ty.up _ aA (ft.refl _)) aC aw;rw[show ((level+1:Nat):Int)=(level:Int)+1 from rfl] at a6;cases sb with
      | true=>
       by_cases hnz:kP p z.Item level=nm
       ·have an:((kP p z.Item level).toList == nm.toList)=M:=by rw[lp];simpa using hnz
        have aY:=fh (hRun.out.next aq.out (by rw[ap.out,ad.out,HNM.out,hnz];simp));clear hnz;go_wp2_with(first | (go_at_call 170;(with_reducible refine a6.mono ?_);rw[ad.out];rintro e v1 ⟨rfl,a0⟩;have z0:=za a0 z0;have z1:=za a0 z1;have z2:=za a0 z2;have z3:=za a0 z3;have z4:=za a0 z4;have z5:=za a0 z5;have z6:=za a0 z6;have z7:=za a0 z7;have y0:=za a0 y0;have y1:=za a0 y1;have x0:=za a0 x0;have cc:=za a0 cc) | (go_at_call 169;(with_reducible refine(zgS (x:=z) (Ty.up _ hp (a1.trans (a0.trans gF))) hpl (Ty.up _ aC (a0.trans gF)) a3).mono ?_);rintro e v2 ⟨rfl,a5⟩;have y0:=za a5 y0;have y1:=za a5 y1;have x0:=za a5 x0;have cc:=za a5 cc));go_roundw;exact⟨q+1,j+1,by go_num,hqn,by omega,fh (by rw[HQJ.out];omega),fh ((a2.out.trans a0).trans a5),aY⟩;exact gH
       ·have an:((kP p z.Item level).toList == nm.toList)=I:=by rw[lp];simpa using hnz
        have HNO:=fh (show ∀ u,xs[k+1+j]?=Z u->pz p level x.Item.fB (kP p x.Item level) u=I from fun u hu=>by rw[aq.out] at hu;injection hu with hu;rw[<-hu,ap.out,ad.out,HNM.out];simpa using hnz);clear hnz;go_wp2_with(first | (go_at_call 170;(with_reducible refine a6.mono ?_);rw[ad.out];rintro e v1 ⟨rfl,a0⟩;have z0:=za a0 z0;have z1:=za a0 z1;have z2:=za a0 z2;have z3:=za a0 z3;have z4:=za a0 z4;have z5:=za a0 z5;have z6:=za a0 z6;have z7:=za a0 z7;have y0:=za a0 y0;have y1:=za a0 y1;have x0:=za a0 x0;have cc:=za a0 cc) | (go_at_call 169;(with_reducible refine(zgS (x:=z) (Ty.up _ hp (a1.trans (a0.trans gF))) hpl (Ty.up _ aC (a0.trans gF)) a3).mono ?_);rintro e v2 ⟨rfl,a5⟩;have y0:=za a5 y0;have y1:=za a5 y1;have x0:=za a5 x0;have cc:=za a5 cc));have HGT:=fh (a2.out.trans (a0.trans a5));exact wh
      | false=>
       have HNO:=fh (show ∀ u,xs[k+1+j]?=Z u->pz p level x.Item.fB (kP p x.Item level) u=I from fun u hu=>by rw[aq.out] at hu;injection hu with hu;rw[<-hu,ap.out,ad.out];rfl);go_wp2_with(first | (go_at_call 170;(with_reducible refine a6.mono ?_);rw[ad.out];rintro e v1 ⟨rfl,a0⟩;have z0:=za a0 z0;have z1:=za a0 z1;have z2:=za a0 z2;have z3:=za a0 z3;have z4:=za a0 z4;have z5:=za a0 z5;have z6:=za a0 z6;have z7:=za a0 z7;have y0:=za a0 y0;have y1:=za a0 y1;have x0:=za a0 x0;have cc:=za a0 cc));have HGT:=fh (a2.out.trans a0);exact wh
     ·have ay:¬ ((q:Int)+1<(xs.length:Int)):=by omega
      have HNO:=fh (show ∀ u,xs[k+1+j]?=Z u->pz p level x.Item.fB (kP p x.Item level) u=I from fun u hu=>by have h1:=(QM.1 hu).1;have h2:=HQJ.out;omega);go_wp2_with(fail);have HGT:=fh (a2.out);exact wh
   ·have ax:(x.Item.fB.length:Int)<=(level:Int):=by omega
    have b5:=fh (Mz (p:=p) HXK.out hlv);go_wp2_with(fail);go_roundw;exact⟨k+1,acc,A5,c5,S,rfl,by go_num,by omega,hG,hH,hS,fh (by rw[<-hA.out,b5.out])⟩;exact gH
  ·obtain rfl:k=xs.length:=by omega
   have aM:¬ ((xs.length:Int)<(xs.length:Int)):=by omega
   have aV:Hid (acc++a9=ma p xs):=fh (by rw[<-hA.out,Rq];rfl);go_wp2_with(fail);go_roundw;exact⟨level+1,acc,A5,c5,S,rfl,by go_num,by omega,hG,hH,hS,fh (by rw[HR.out];exact aV.out)⟩;exact gH
 ·obtain rfl:level=m:=by omega
  have bb:¬ ((level:Int)<(level:Int)):=by omega
  have HQ:Hid (a7=ma p xs):=fh (by rw[<-aE.out,RP];simp);go_wp2_with(fail);exact QU (v:=G ao a7.length ar) (by simp[Rd,results128,go_sem]) rfl (by rw[<-HQ.out];exact⟨ao,ar,S0,rfl,aH.out,aI.out,aF.out⟩)
end Go.Proofs.YthgbglbaemelhaaGreat
