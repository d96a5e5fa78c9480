/-
  PART.
-/
import Derived.Test.YthgbglbaemelhaaGreatM0LawThreadsApart
import Derived.Deep.RegionHeld3
import Derived.KernelRfl
set_option linter.unusedVariables false
set_option linter.unusedSimpArgs false
set_option maxRecDepth 100000
set_option maxHeartbeats 8000000
namespace Go.Proofs.YthgbglbaemelhaaGreat
open Value renaming slice->G,int->J,bool->H,string->V,ownBlock->Tv
open IntKind renaming i64->Z,wrap->Rg
open Option renaming none->C,some->D
open Obj renaming cells->F
open Bool renaming false->I,true->M
open Go renaming World->U,Calls->RD,Addr->RJ,TypeId->R5,yielded->Th,bytes->Ti
open World renaming cell?->Rb,frozen?->Rx
open _root_.Int renaming toNat_natCast->Ry
open List renaming length_cons->RA,nil_append->RY,cons_append->TQ
open RowKit renaming intOf->RS,wrap64->SN
open Region renaming wanted->RV
open _root_.Array renaming length_toList->Sk
open _root_.Nat renaming add_zero->Sr
open Builtin renaming append_->Tk
open Ending renaming returned->Tq
open BitVec renaming ofInt->TE
open Tryz
open Go.RowKit
variable {A:X RJ}{B c d j k n:Nat}{S:Q Nat}{W W' W0 a w:U}{b:N}{cs:Q Value}{e:R5}{h i:Int}
def xF (cur:Array Value)(p:Nat):Nat->Q Value->Array Value
 | _,[]=>cur
 | j,v::vs=>xF (cur.setIfInBounds (p+j) v) p (j+1) vs
def uj (l:Q Value)(p:Nat):Nat->Q Value->Q Value
 | _,[]=>l
 | j,v::vs=>uj (l.set (p+j) v) p (j+1) vs
theorem Fm (vs:Q Value):∀(cur:Array Value)(p j:Nat),(xF cur p j vs).toList=uj cur.toList p j vs:=by
 induction vs with
 | nil=>intro cur p j;rfl
 | cons v vs ih=>intro cur p j;simp only[xF,uj];rw[ih,Array.toList_setIfInBounds]
theorem Ln (vs:Q Value):∀(l:Q Value)(p j:Nat),(uj l p j vs).length=l.length:=by
 induction vs with
 | nil=>intro l p j;rfl
 | cons v vs ih=>intro l p j;simp only[uj];rw[ih,RP]
theorem NG (vs:Q Value)(cur:Array Value)(p j:Nat):(xF cur p j vs).size=cur.size:=by
 rw[<-Sk,Fm,Ln,Sk]
theorem Qe (vs:Q Value):∀(l:Q Value)(p j:Nat),p+j+vs.length<=l.length->uj l p j vs=l.take (p+j)++(vs++l.drop (p+j+vs.length)):=by
 induction vs with
 | nil=>intro l p j _;simp[uj]
 | cons v vs ih=>
  intro l p j h;simp only[RA] at h;have hl:(l.take (p+j)).length=p+j:=by rw[SX];omega
  simp only[uj];rw[ih _ _ _ (by rw[RP];omega),RA,show p+(j+1)=p+j+1 from rfl,List.drop_set_of_lt K9,R8,List.take_set_of_le (Ru _),TN K9];simp only[Option.toList_some,RU,TQ,RY];rw[show p+j+1+vs.length=p+j+(vs.length+1) from K9]
def setRow (w:U)(g p:Nat):Nat->Q Value->U
 | _,[]=>w
 | j,v::vs=>setRow (w.setCell ⟨g,p+j,C⟩ v) g p (j+1) vs
theorem NH (vs:Q Value):∀(w:U)(g p j:Nat)(cur:Array Value)(e:R5),w.heap[g]?=D (F cur e (0,0))->(setRow w g p j vs).heap[g]?=D (F (xF cur p j vs) e (0,0)):=by
 induction vs with
 | nil=>intro w g p j cur e h;exact h
 | cons v vs ih=>intro w g p j cur e h;exact ih _ _ _ _ _ _ (zV h _ _)
theorem Lo (vs:Q Value){S:Q Nat}{g:Nat}(hg:g∈S):∀(w0 w:U)(p j:Nat),fx S w0 w->fx S w0 (setRow w g p j vs):=by
 induction vs with
 | nil=>intro w0 w p j h;exact h
 | cons v vs ih=>intro w0 w p j h;exact ih _ _ _ _ (h.setCell (p:=⟨g,p+j,C⟩) hg v)
theorem K4 (vs:Q Value):∀(w:U)(g p j k:Nat),k≠g->(setRow w g p j vs).heap[k]?=w.heap[k]?:=by
 induction vs with
 | nil=>intro w g p j k _;rfl
 | cons v vs ih=>intro w g p j k hk;exact(ih _ _ _ _ _ hk).trans (UX w ⟨g,p+j,C⟩ v k hk)
def cut (W:U)(n:Nat):U:={ W with heap:=W.heap.extract 0 n }
theorem Of (h:n<=W.heap.size):(cut W n).heap.size=n:=by
 simp only[cut,Array.size_extract];omega
theorem OS {i:Nat} (h:n<=W.heap.size)(hi:i<n):(cut W n).heap[i]?=W.heap[i]?:=by
 simp only[cut];rw[Array.getElem?_extract,Rs K9,RF]
theorem fu.cut {w W:U}{n:Nat}(h:fu w W)(hn:w.heap.size<=n)(h2:n<=W.heap.size):fu w (cut W n):=by
 have hb:=h.below;exact fu.jN ⟨hb.os,hb.tape,hb.output,by rw[Of h2];exact hn,fun k hk=>by rw[OS h2 K9];exact hb.block k hk⟩
theorem jX {b:U} (h:fu a b){p:RJ}{v:Value}(hp:a.cell? p=D v):b.cell? p=D v:=by
 obtain⟨os,d,rfl⟩:=h;exact zd hp os d
structure iO (w W:U)(k:Nat):Prop where
 lo:w.heap.size<=k
 fy:fu w W
 at_:∃(A:X RJ) (n c:Nat) (i h:Int) (xs:Q UInt8),W.heap[k]?=D (F #[G A n c,J Z i,J Z h] 118 (0,0))/\0<=i/\fE i/\fE h/\(nj.sl 5).R w w.heap.size [G A n c] xs
theorem iO.lt (h:iO w W k):k<W.heap.size:=by
 obtain⟨_,_,_,_,_,_,h1,_⟩:=h.at_;exact(blt h1)
theorem iO.to (h:iO w W k)(hb:W'.heap[k]?=W.heap[k]?)(hg:fu w W'):iO w W' k:=by
 obtain⟨A,n,c,i,h',xs,h1,h2⟩:=h.at_;exact⟨h.lo,hg,A,n,c,i,h',xs,by rw[hb];exact h1,h2⟩
theorem iO.more (h:iO w W k)(hg:fu W W'):iO w W' k:=h.to (hg.block h.lt) (h.fy.trans hg)
theorem iO.only (h:iO w W k)(hs:fx S W W')(hk:k∉S)(hS:∀ b∈S,w.heap.size<=b):iO w W' k:=h.to (hs.block k h.lt hk) (hs.fy h.fy hS)
theorem iO.below {w W W':U}{k lo:Nat}(h:iO w W k)(hb:Below lo W W')(hk:k<lo):iO w W' k:=
 h.to (hb.block k hk) (fu.jN (h.fy.below.trans (hb.mono (by have:=h.lo;omega))))
theorem fx.below {lo:Nat} (h:fx S a W)(hb:Below lo W W')(hl:a.heap.size<=lo):fx S a W':=
 ⟨hb.os.trans h.os,hb.tape.trans h.tape,hb.output.trans h.output,RG h.size hb.size,fun i hi hn=>(hb.block i K9).trans (h.block i hi hn)⟩
section
variable {α:Type} {T:Ty α} {e:R5} {P:Program} {t:R5} {Ti:Nat} {ops:Array Oper} {rest:Q Oper} {o:Oper} {a:Act} {Q8:Exit->Act->U->Prop} {K:Act->U->Prop}
end
theorem LP {P:Program} {t:R5} (ht:P.underlying t=D (.int .u8)):BE P t nj:=by
 intro Q6 a3 W a0 a2 a1 cs x h;obtain⟨n,rfl,_,hw⟩:=DataW.trod_int ht h;have h1:0<=n/\n<=255:=by simpa[Lit.wf,IntKind.min,IntKind.max,IntKind.signed,IntKind.bits] using hw
 exact⟨_,G5 h1.1 K9⟩
theorem Bv (a:Int):∃ n:Nat,bits .and Z a 255=(n:Int)/\n<256:=by
 refine⟨((TE 64 a &&& TE 64 255).toNat),?_,?_⟩
 ·show Rg Z ((TE 64 a &&& TE 64 255).toNat:Int)=_
  rw[BitVec.toNat_and,show (TE 64 255).toNat=2 ^ 8-1 from rfl,Ue];exact iw
 ·rw[BitVec.toNat_and,show (TE 64 255).toNat=2 ^ 8-1 from rfl,Ue]
  omega
theorem Nc {a b c:Value} (h:W.heap[k]?=D (F #[a,b,c] 118 (0,0))) :
  Rb W ⟨k,0,C⟩=D a/\Rb W ⟨k,1,C⟩=D b/\Rb W ⟨k,2,C⟩=D c/\(∀ j,Rx W ⟨k,j,C⟩=I):=by
 refine⟨?_,?_,?_,fun j=>by simp[Rx,h]⟩
 all_goals
  rw[Sw W k _ _ _ (0,0) h]
  rfl
theorem O9 (a b:Int):fE (bits .and Z a b):=by
 show fE (Rg Z _);rw[IntKind.wrap_i64];constructor <;> omega
theorem An (n:Int):fE (SN n):=by
 unfold SN;constructor <;> omega
structure lG (w W0 W:U)(k:Nat)(A:X RJ)(n c:Nat)(i h:Int):Prop where
 lo:w.heap.size<=k
 fy:fu w W
 only:fx [k] W0 W
 iX:W.heap[k]?=D (F #[G A n c,J Z i,J Z h] 118 (0,0))
 i0:0<=i
 i1:fE i
 h1:fE h
 read:∃ xs,(nj.sl 5).R w w.heap.size [G A n c] xs
theorem lG.out (Q6:lG w W0 W k A n c i h):iO w W k/\fx [k] W0 W:=by
 obtain⟨xs,hx⟩:=Q6.read;exact⟨⟨Q6.lo,Q6.fy,A,n,c,i,h,xs,Q6.iX,Q6.i0,Q6.i1,Q6.h1,hx⟩,Q6.only⟩
theorem lG.sW {h':Int} (Q6:lG w W0 W k A n c i h)(hb:fE h'):lG w W0 (W.setCell ⟨k,2,C⟩ (J Z h')) k A n c i h':=
 ⟨Q6.lo,Q6.fy.setRow (p:=⟨k,2,C⟩) Q6.lo _,Q6.only.setCell (p:=⟨k,2,C⟩) II _,zV Q6.iX 2 _,Q6.i0,Q6.i1,hb,Q6.read⟩
theorem lG.xP {i':Int} (Q6:lG w W0 W k A n c i h)(hb0:0<=i')(hb:fE i'):lG w W0 (W.setCell ⟨k,1,C⟩ (J Z i')) k A n c i' h:=
 ⟨Q6.lo,Q6.fy.setRow (p:=⟨k,1,C⟩) Q6.lo _,Q6.only.setCell (p:=⟨k,1,C⟩) II _,zV Q6.iX 1 _,hb0,hb,Q6.h1,Q6.read⟩
theorem lG.drewN {w W0 W:U}{k:Nat}{A:X RJ}{n c:Nat}{i h:Int}(Q6:lG w W0 W k A n c i h)(m:Nat):lG w W0 (W.drewN m) k A n c i h:=
 ⟨Q6.lo,Q6.fy.drewN m,Q6.only.trans ((fu.drewN (fu.refl _) m).only _),Q6.iX,Q6.i0,Q6.i1,Q6.h1,Q6.read⟩
theorem zkV (hC:iO w W k):RD prog 77 #[.pointer (D ⟨k,0,C⟩)] W fun e W'=>∃ x:Nat,e=.returned (J Z (x:Int))/\x<256/\iO w W' k/\fx [k] W W':=by
 obtain⟨a6,a2,A,n,c,i,h,xs,hk,a3,a5,hh,hx⟩:=hC;have H0:lG w W W k A n c i h:=⟨a6,a2,fx.refl _ _,hk,a3,a5,hh,xs,hx⟩
 obtain⟨_,_,hv,ah,ab⟩:=kJ hx;injection hv with hA hn hc
 subst hA hn hc;obtain⟨a8,a9,aa,a1⟩:=Nc hk;have ac:=a1 1;have ad:=a1 2;go_enter func77,ntmps77;go_wp2_with(fail);go_quiet (fail);go_wp2_with(fail);by_cases hlt:i<xs.length
 ·obtain⟨j,rfl⟩:=RE a3
  obtain⟨g,ai,x,ec,rfl,ae,a7,rfl,a0⟩:=nU hx (k:=j) K9;have a4:=jX a2 (a0 0 _ rfl);simp only[show nj.size=1 from rfl,TO,Sr] at a4;have af:g≠k:=K9;have ag:=x.toNat_lt;clear a0 a7;go_quiet (fail);go_wp2_with(fail);go_quiet (fail);go_wp2_with(fail);go_ret;refine⟨_,Ta (fun z=>Tq (J Z z)) (Bv _).choose_spec.1,(Bv _).choose_spec.2,?_,?_⟩
  ·exact(((H0.sW (An _)).xP K9 ⟨K9,K9⟩).drewN _).out.1
  ·exact(((H0.sW (An _)).xP K9 ⟨K9,K9⟩).drewN _).out.2
 ·go_quiet (fail)
  go_wp2_with(fail);go_ret;refine⟨_,Ta (fun z=>Tq (J Z z)) (Bv _).choose_spec.1,(Bv _).choose_spec.2,?_,?_⟩
  ·exact((H0.sW (An _)).drewN _).out.1
  ·exact((H0.sW (An _)).drewN _).out.2
theorem zs {os:Array Obj} (b:Obj)(n:Nat)(h:n=w.heap.size+os.size:=by rfl):((fy w os d).alloc b).heap[n]?=D b:=by
 subst h;have:=Re (fy w os d) b;rwa [kH] at this
theorem Xt {g:Prop} (f:g:=by
  go_ret
  refine⟨_,rfl,?_⟩
  exact⟨K9,gG,_,_,_,0,h,xs,zs _ _,Tz _,⟨K9,K9⟩,hh,hx⟩):g:=f
theorem zxR {xs:Q UInt8} (hx:(nj.sl 5).R w w.heap.size [G A n c] xs)(hl:xs.length<=1099511627776):RD prog 32 #[G A n c] w fun e W'=>∃ k,e=.returned (.pointer (D ⟨k,0,C⟩))/\iO w W' k:=by
 have a7:=hx;obtain⟨_,_,hv,a9,a5⟩:=kJ hx;injection hv with hA hn hc
 subst hA hn hc;go_enter func32,ntmps32;go_wp2_with(fail);go_loopw [3,4] (fun a b wr=>∃(h:Int) (j:Nat),a=J Z h/\b=J Z j/\j<=xs.length/\fE h/\Hid (fu w wr)) (fun _ b _=>xs.length-(RS b).toNat)
 case atStart=>exact⟨33147+xs.length,0,rfl,rfl,Rl _,⟨K9,K9⟩,fh (fu.refl _)⟩
 case round=>
  obtain⟨h,j,rfl,rfl,hj,hh,hG⟩:=hrel;obtain⟨os,d,rfl⟩:=hG.out;clear hG;by_cases hlt:j<xs.length/\j<4000
  ·obtain⟨a1,a2⟩:=hlt
   obtain⟨g,aa,x,ec,rfl,a6,a4,rfl,a0⟩:=nU hx (k:=j) a1;have a3:=a0 0 _ rfl;simp only[show nj.size=1 from rfl,TO,Sr] at a3;have a8:=x.toNat_lt;clear a0 a4 hx;go_wp2_with(fail);go_roundw;exact⟨_,j+1,rfl,Ar,K9,O9 _ _,fh gG⟩;exact gM
  ·by_cases a1:j<xs.length
   ·have a2:¬ j<4000:=fun h=>hlt ⟨a1,h⟩
    go_wp2_with(fail);exact Xt
   ·go_wp2_with(fail)
    exact Xt
theorem zvU (hC:iO w W k)(n:Nat)(hn:0<n)(hn2:n<=1099511627776):RD prog 36 #[.pointer (D ⟨k,0,C⟩),J Z (n:Int)] W fun e W'=>∃ x:Nat,e=.returned (J Z (x:Int))/\x<n/\iO w W' k/\fx [k] W W':=by
 by_cases h:n<=256
 ·go_enter func36,ntmps36
  go_wp2_with(go_at_call 77;(with_reducible refine(zkV hC).mono ?_);rintro e W1 ⟨x,rfl,hx,a0,a1⟩);go_ret;refine⟨x % n,?_,Va _ hn,a0,a1⟩;exact nV (show (x:Int) % (n:Int)=((x % n:Nat):Int) from(Int.natCast_emod x n).symm)
 ·go_enter func36,ntmps36
  go_wp2_with(fail);refine(zkV hC).mono ?_;rintro e W1 ⟨x1,rfl,a8,a0,a1⟩;go_wp2_with(fail);refine(zkV a0).mono ?_;rintro e W2 ⟨x2,rfl,a9,a2,a5⟩;go_wp2_with(fail);refine(zkV a2).mono ?_;rintro e W3 ⟨x3,rfl,aa,a3,a6⟩;go_wp2_with(fail);refine(zkV a3).mono ?_;rintro e W4 ⟨x4,rfl,ab,a4,a7⟩;go_wp2_with(fail);go_ret;refine⟨(x1*16777216+x2*65536+x3*256+x4) % n,?_,Va _ hn,a4,((a1.trans a5).trans a6).trans a7⟩;exact nV (show ((x1:Int)*16777216+x2*65536+x3*256+x4) % (n:Int)=(((x1*16777216+x2*65536+x3*256+x4) % n:Nat):Int) from by rw[Int.natCast_emod];rfl)
theorem nS (hC:iO w W k)(n:Int)(hn:0<n)(hn2:n<=1099511627776):RD prog 36 #[.pointer (D ⟨k,0,C⟩),J Z n] W fun e W'=>∃ x:Nat,e=.returned (J Z (x:Int))/\(x:Int)<n/\iO w W' k/\fx [k] W W':=by
 obtain⟨n,rfl⟩:=RE (show 0<=n from K9);refine(zvU hC n K9 K9).mono ?_;rintro e W' ⟨x,h1,h2,h3⟩;exact⟨x,h1,K9,h3⟩
theorem zrt (hC:iO w W k){A:X RJ}{n c:Nat}{xs:Q Int}(hx:(zr.sl 3).R W W.heap.size [G A n c] xs)(hk:∀ ad,A=D ad->ad.block≠k)(h0:0<n)(h1:n<=1000000):RD prog 71 #[.pointer (D ⟨k,0,C⟩),G A n c] W fun e W'=>∃ x:Int,e=.returned (J Z x)/\x∈xs/\iO w W' k/\fx [k] W W':=by
 obtain⟨_,_,hv,a7,a6⟩:=kJ hx;injection hv with hA hn hc
 subst hA hn hc;go_enter func71,ntmps71;go_wp2_with(fail);refine(nS hC xs.length K9 K9).mono ?_;rintro e W1 ⟨i,rfl,hi,a2,a1⟩;obtain⟨g,a8,x,ec,rfl,a4,a5,hR,a0⟩:=nU hx (k:=i) K9;obtain⟨rfl,_⟩:=hR;have a3:=(a1.cell a4 (by simpa using hk _ rfl) _).trans (a0 0 _ rfl);simp only[show zr.size=1 from rfl,TO,Sr] at a3;go_wp2_with(fail);go_ret;exact⟨x,rfl,Rt a5,a2,a1⟩
theorem zwR (A:X RJ)(n c:Nat)(w:U):RD prog 7 #[G A n c] w fun e w'=>e=.returned (H (decide (1048576<(n:Int))))/\fu w w':=by
 go_enter func7,ntmps7;go_wp2_with(fail);go_ret;exact⟨rfl,gG⟩
theorem M1 (a b:Q UInt8):(⟨a.toArray⟩:N)++⟨b.toArray⟩=⟨(a++b).toArray⟩:=by
 apply Fy.1;rw[Ux,Ux];simp
theorem mP {a:N} (h:a=b):Tq (V a)=.returned (V b):=by rw[h]
theorem Iz {a:N} (h:a=b):V a=V b:=by rw[h]
theorem Qo {α:Type} (f:α->Nat)(xs:Q α)(j:Nat):((xs.take j).map f).sum<=(xs.map f).sum:=Ks (cnt:=f) xs j
theorem Qz {α:Type} (f:α->Nat){xs:Q α}{j:Nat}{x:α}(h:xs[j]?=D x):((xs.take (j+1)).map f).sum=((xs.take j).map f).sum+f x:=M8 (cnt:=f) h
def lI {α:Type}(f:α->Nat)(xs:Q α):Nat:=xs.length+(xs.map f).sum
theorem yC {α:Type} (f:α->Nat)(xs:Q α):xs.length<=lI f xs:=TR _ _
theorem tS {α:Type} (f:α->Nat){xs:Q α}{j:Nat}{x:α}(h:xs[j]?=D x):f x<=lI f xs:=by
 have h1:=Qz f h;have h2:=Qo f xs (j+1);unfold lI;omega
theorem Cx:(prog.info? 3).map (fun i=>(i.zero,i.size,i.bytes))=D (D (J Z 0),1,8):=Fs
theorem zlU {xs:Q Int} {B:X RJ} (hx:(zr.sl 3).R w w.heap.size [G A xs.length c] xs)(hy:(zr.sl 3).R w w.heap.size [G B xs.length d] xs)(hl:xs.length<=1099511627776) :
  RD prog 12 #[G A xs.length c,G B xs.length d] w fun e w'=>e=.returned (H M)/\fu w w':=by
 go_enter func12,ntmps12;go_wp2_with(fail);go_loopw [5] (fun z wr=>∃ j:Nat,z=J Z (j:Int)/\j<=xs.length/\Hid (fu w wr)) (fun z _=>xs.length-(RS z).toNat)
 case atStart=>exact⟨0,rfl,Rl _,fh gG⟩
 obtain⟨j,rfl,hj,HG⟩:=hrel;by_cases hlt:j<xs.length
 ·have a1:(j:Int)<(xs.length:Int):=K9
  have a5:Rg Z ((j:Int)+1)=(j:Int)+1:=iw;obtain⟨g,o,x,hA,a2,a4,_⟩:=lJ (Ty.up _ hx HG.out) (k:=j) hlt;obtain⟨g2,o2,x2,hB,a0,a3,_⟩:=lJ (Ty.up _ hy HG.out) (k:=j) hlt;have e:x=x2:=by rw[a2] at a0;injection a0
  subst e;subst hA hB;have hb:((x != x):Bool)=I:=II;clear hx hy a2 a0;go_wp2_with(fail);go_quiet (fail);go_wp2_with(fail);go_roundw;exact⟨j+1,Ar,K9,fh (HG.out.trans gF)⟩;exact gM
 ·have a1:¬ (j:Int)<(xs.length:Int):=K9
  go_wp2_with(fail);go_ret;exact⟨rfl,HG.out⟩
theorem I9 (b:Bool)(w:U):RD prog 10 #[H b] w fun e w'=>e=.returned (J Z (if b=M then 1 else 0))/\w=w':=by
 cases b
 ·go_enter func10,ntmps10
  go_wp2_with(fail);go_ret;exact⟨rfl,rfl⟩
 ·go_enter func10,ntmps10
  go_wp2_with(fail);go_ret;exact⟨rfl,rfl⟩
theorem Qs (w:U):RD prog 10 #[H M] w fun e w'=>e=.returned (J Z 1)/\w=w':=I9 M w
theorem Qr (w:U):RD prog 10 #[H I] w fun e w'=>e=.returned (J Z 0)/\w=w':=I9 I w
def tU (c:UInt8):Bool:=decide (97<=(c.toNat:Int)) && decide ((c.toNat:Int)<=122)
def kZ (s:N):Bool:=s.data.toList.all tU && fP s.size 1 8
theorem yh (s:N)(k:Nat)(h:k<s.size):s.data.toList[k]?=D s[k]:=by
 rw[Rn (by simpa using h)];rfl
theorem Lg {α:Type} {xs:Q α} {f:α->Bool} {x:α} (h:xs[j]?=D x)(ha:(xs.take j).all f=M)(hf:f x=M):(xs.take (j+1)).all f=M:=by
 rw[wD h,Um,ha];simp[hf]
theorem FC {α:Type} {xs:Q α} {f:α->Bool} {x:α} (h:xs[j]?=D x)(hf:f x=I):xs.all f=I:=by
 rw[List.all_eq_false];exact⟨x,Rt h,by simp[hf]⟩
theorem Xd {g:Prop} (f:g:=by
  by_cases h1:97<=(s[k].toNat:Int)
  ·by_cases h2:(s[k].toNat:Int)<=122
   ·go_wp2
    go_round
    exact⟨k+1,K9,Ar,fh (Lg HX.out ha.out (by simp only[tU,Rq,RC];exact⟨h1,h2⟩))⟩
    exact gM
   ·have HF:=fh (FC (f:=tU) HX.out (by simp only[tU,Up,SJ];exact .inr h2))
    go_wp2
    go_ret
    exact⟨zp (by unfold kZ;rw[HF.out];rfl),rfl⟩
  ·have HF:=fh (FC (f:=tU) HX.out (by simp only[tU,Up,SJ];exact .inl h1))
   go_wp2
   go_ret
   exact⟨zp (by unfold kZ;rw[HF.out];rfl),rfl⟩):g:=f
theorem Hr (s:N)(w:U)(hs:s.size<=9223372036854775807):RD prog 143 #[V s] w fun e w'=>e=.returned (H (kZ s))/\w=w':=by
 go_enter func143,ntmps143;go_wp2_with(fail);go_loop [3] (fun i=>∃ k:Nat,k<=s.size/\i=J Z k/\Hid ((s.data.toList.take k).all tU=M)) (fun i=>s.size-(RS i).toNat)
 case atStart=>exact⟨0,Rl _,rfl,fh II⟩
 case round=>
  obtain⟨k,hk,rfl,ha⟩:=hrel;by_cases hlt:k<s.size
  ·have HX:=fh (yh s k hlt)
   exact Xd
  ·have a0:k=s.size:=K9
   subst a0;have HA:=fh (show kZ s=fP s.size 1 8 from by unfold kZ;rw[<-SC (l:=s.data.toList)];have:=ha.out;rw[show s.size=s.data.toList.length from by rw[Sk];rfl] at this;rw[this];rfl);clear ha;go_wp2_with(first | (go_at_call 38;(with_reducible refine(lW _ _ _ _).mono ?_);rintro e w1 ⟨rfl,rfl⟩));go_ret;exact⟨zp HA.out.symm,rfl⟩
theorem rr (s:N)(w:U)(hs:s.size<=9223372036854775807):RD prog 133 #[V s] w fun e w'=>e=.returned (H (kZ s))/\w=w':=by
 go_enter func133,ntmps133;go_wp2_with(fail);go_loop [3] (fun i=>∃ k:Nat,k<=s.size/\i=J Z k/\Hid ((s.data.toList.take k).all tU=M)) (fun i=>s.size-(RS i).toNat)
 case atStart=>exact⟨0,Rl _,rfl,fh II⟩
 case round=>
  obtain⟨k,hk,rfl,ha⟩:=hrel;by_cases hlt:k<s.size
  ·have HX:=fh (yh s k hlt)
   exact Xd
  ·have a0:k=s.size:=K9
   subst a0;have HA:=fh (show kZ s=fP s.size 1 8 from by unfold kZ;rw[<-SC (l:=s.data.toList)];have:=ha.out;rw[show s.size=s.data.toList.length from by rw[Sk];rfl] at this;rw[this];rfl);clear ha;go_wp2_with(first | (go_at_call 43;(with_reducible refine(gW _ _ _ _).mono ?_);rintro e w1 ⟨rfl,rfl⟩));go_ret;exact⟨zp HA.out.symm,rfl⟩
theorem Gv {α:Type} {T:Ty α} (hf:kB T){W0 W W1:U}{B:Nat}{ec:Q Value}{x:α}(hR:T.R W1 B ec x)(hg:fu W0 W){g:Nat}(hgW:g=W.heap.size):fU (T.sl e) W0 (W.alloc (F ec.toArray e)) [G (D ⟨g,0,C⟩) 1 1] [x]:=by
 subst hgW;refine⟨[W.heap.size],qi (xs:=[x]) (Re W _) (show AC T _ ec.toArray.toList [x] [] from⟨ec,[],[],[],II,rfl,hf hR _,rfl,rfl⟩) II,II,fun b hb=>?_⟩;simp at hb;subst hb;exact hg.size
def Has {α:Type}(T:Ty α)(W:U)(cs:Q Value)(x:α)(S:Q Nat):Prop:=T.O W cs x S/\S.Nodup
theorem Has.lt {α:Type} {T:Ty α} {x:α} (h:Has T W cs x S):∀ b∈S,b<W.heap.size:=T.iY h.1
theorem Has.read {α:Type}{T:Ty α}{W:U}{cs:Q Value}{x:α}{S:Q Nat}(h:Has T W cs x S):T.R W W.heap.size cs x:=T.read h.1
theorem Has.fJ {α:Type} {T:Ty α} {x:α} {L:Q Nat} (h:Has T W cs x S)(ho:fx L W W')(hd:∀ b∈S,b∉L):Has T W' cs x S:=
 ⟨T.gD h.1 (fun k hk=>ho.block k (h.lt k hk) (hd k hk)),h.2⟩
theorem Has.fy {α:Type} {T:Ty α} {x:α} (h:Has T W cs x S)(hg:fu W W'):Has T W' cs x S:=⟨T.jh h.1 hg,h.2⟩
theorem Has.fresh {α:Type} {T:Ty α} {x:α} (h:Has T W cs x S)(hl:∀ b∈S,w.heap.size<=b):fU T w W cs x:=⟨S,h.1,h.2,hl⟩
theorem fU.has {α:Type} {T:Ty α} {x:α} (h:fU T w W cs x):∃ S,Has T W cs x S/\∀ b∈S,w.heap.size<=b:=by
 obtain⟨S,h1,h2,h3⟩:=h;exact⟨S,⟨h1,h2⟩,h3⟩
theorem Has.same {α:Type} {T:Ty α} {x:α} (h:Has T W cs x S)(hl:∀ b∈S,n<=b)(hs:gQ n W.heap.size W W'):Has T W' cs x S:=
 ⟨T.gD h.1 (fun k hk=>hs k (hl k hk) (h.lt k hk)),h.2⟩
theorem Has.prod {α β:Type}{T:Ty α}{Q5:Ty β}{W:U}{c1 c2:Q Value}{x:α × β}{S:Q Nat}(hl:c1.length=T.size)(h:Has (T.prod Q5) W (c1++c2) x S):∃ S1 S2,Has T W c1 x.1 S1/\Has Q5 W c2 x.2 S2/\(∀ b∈S1,b∈S)/\(∀ b∈S2,b∈S)/\∀ b∈S1,b∉S2:=by
 obtain⟨⟨d1,d2,S1,S2,he,rfl,h1,h2⟩,hN⟩:=h;have a0:=T.jC h1;have h3:c1=d1/\c2=d2:=List.append_inj he K9;obtain⟨rfl,rfl⟩:=h3;obtain⟨n1,n2,n3,_⟩:=JA hN;exact⟨S1,S2,⟨h1,n1⟩,⟨h2,n2⟩,fun b hb=>RH _ hb,fun b hb=>RK _ hb,n3⟩
theorem Has.nil {α:Type} (T:Ty α)(e:R5)(W:U):Has (T.sl e) W [G C 0 0] [] []:=by
 obtain⟨S,h1,h2,h3⟩:=AJ (T:=T) (e:=e) W W;refine⟨?_,II⟩;obtain⟨A',c',a0,S',h4,h5,h6,h7⟩:=h1;injection h4 with h4 _
 injection h4 with hA hn hc
 subst hA hc;obtain⟨h8,h9⟩:=h6;exact⟨C,0,a0,[],rfl,h5,⟨h8,rfl⟩,rfl⟩
theorem Has.Wy {α:Type} (T:Ty α){e:R5}{W:U}{g:Nat}(hg:W.heap[g]?=D (F #[] e (0,0))):Has (T.sl e) W [G (D ⟨g,0,C⟩) 0 0] [] [g]:=
 ⟨qi (T:=T) (xs:=[]) hg ⟨rfl,rfl⟩ II,II⟩
section
variable {α:Type} {T:Ty α} {e:R5} {P:Program} {t ty:R5} {Ti:Nat}
theorem xT (hE:hU P t e T Ti){W:U}{S:Q Nat}{A:X RJ}{n c:Nat}{xs:Q α}(h:Has (T.sl e) W [G A n c] xs S)
  {ad:RJ} {m c':Nat} {ys:Q α} {news:Q Value} {Sy:Q Nat} (hr:AC T W news ys Sy) (hm:m=ys.length) (hcell:∀ j u,news[j]?=D u->W.cell? (ad.add j)=D u)
  (hSy:Sy.Nodup) (hd:∀ b∈S,b∉Sy) {L:Nat} (hL:L=n+m) (hb:L*Ti<=140737488355328) (h63:L<=9223372036854775807) :
  ∃ A' c'' W' S',(Tk #[t,t] ty #[G A n c,G (D ad) m c']).run P W=.ok (G A' L c'') W'/\fx S W W'/\Has (T.sl e) W' [G A' L c''] (xs++ys) S'/\∀ b∈S',b∈S∨b∈Sy∨W.heap.size<=b:=by
 subst hL;obtain⟨hO,hN⟩:=h;obtain⟨A1,c1,a5,S',hv,aa,hrow,rfl⟩:=hO;injection hv with hv _
 injection hv with hA hn hc
 subst hA hc;have a7:n=xs.length:=hn;obtain⟨i,z,hi,hz,a4,a9,ac⟩:=hE.Xv;have a6:news.length=m*T.size:=by rw[hr.len,hm]
 obtain⟨v',W',a8,hown,a0,_,hat⟩:=run_append_own_at (P:=P) W 0 t ty e i z T.size Ti hE.ht hi hz a4 a9 ac hE.pos (G A xs.length c) xs.length a5 aa ad m c' news a6 hcell hr.one
  (by rw[<-a7];simpa[maxLen] using h63) (by rw[<-a7];exact hb) (Rl _)
 subst a7
 have a1:∀ k,k<W.heap.size->(∀ b∈kj A,k≠b)->W'.heap[k]?=W.heap[k]?:=fun k hk hne=>a0.block k hk (by
  cases A with
  | none=>simp[Tv]
  | some a=>simpa[Tv,kj] using hne)
 rw[RM] at hN;obtain⟨ae,hN2,hN3⟩:=hN;have a3:AC T W' a5 xs S':=hrow.fJ (fun k hk=>a1 k (hrow.lt k hk) (fun b hb=>(hN3 b hb k hk).symm));have ab:AC T W' news ys Sy:=hr.fJ (fun k hk=>a1 k (hr.lt k hk) (fun b hb heq=>hd b (RH _ hb) (heq ▸ hk)))
 have a2:∃ A' c'',v'=G A' (xs.length+m) c''/\∀ b∈kj A',b∈kj A∨b=W.heap.size:=by
  exact uO
 obtain⟨A',c'',rfl,hA'⟩:=a2
 refine⟨A',c'',W',kj A'++(S'++Sy),a8,⟨a0.os,a0.tape,a0.output,a0.size,fun k hk hn=>a1 k hk (fun b hb heq=>hn (RH _ (heq ▸ hb)))⟩,
  ⟨⟨A',c'',a5++news,S'++Sy,by rw[Rh,hm],by rw[Rh,<-hm];exact hown,a3.WH ab,rfl⟩,?_⟩,?_⟩
 ·rw[RM]
  exact uF
 ·intro b hb
  rcases Rr.1 hb with hb | hb
  ·rcases hA' b hb with h | h
   ·exact .inl (RH _ h)
   ·exact .inr (.inr K9)
  ·rcases Rr.1 hb with hb | hb
   ·exact .inl (RK _ hb)
   ·exact .inr (.inl hb)
theorem DS (hE:hU P t e T Ti){W:U}{S:Q Nat}{A:X RJ}{n c:Nat}{xs:Q α}(h:Has (T.sl e) W [G A n c] xs S)(c':Nat) :
  (Tk #[t,t] ty #[G A n c,G C 0 c']).run P W=.ok (G A n c) W:=
 DR (W0:={ W with heap:=#[] }) hE ⟨S,h.1,h.2,fun b _=>Rl _⟩ c'
end
section
variable {α:Type} {T:Ty α} {e:R5} {P:Program} {t:R5} {Ti:Nat} {ops:Array Oper} {rest:Q Oper} {o:Oper} {a:Act} {Q8:Exit->Act->U->Prop} {K:Act->U->Prop}
theorem wU {E:Prop} (hgd:o.guard=C)(s x:Operand)(hE:hU P t e T Ti){W:U}{g cc:Nat}{S Sy:Q Nat}{A:X RJ}{n c:Nat}{xs:Q α}(h:Has (T.sl e) W [G A n c] xs S)
  {ec:Q Value} {y:α} (hy:Has T W ec y Sy) (hd:∀ b∈S,b∉Sy)
  (ho:o.op=.call { callee:=.builtin .append,args:=#[s,x],argTypes:=#[t,t] }) (hs:a.eval s=G A n c) (hx:a.eval x=G (D ⟨g,0,C⟩) 1 cc)
  (hcell:∀(j:Nat) (u:Value),ec[j]?=D u->Rb W ⟨g,j,C⟩=D u)
  {L:Nat} (hL:L=n+1) (hb:L*Ti<=140737488355328) (h63:L<=9223372036854775807)
  (hK:∀ A' c'' W' S',fx S W W'->Has (T.sl e) W' [G A' L c''] (xs++[y]) S'->(∀ b∈S',b∈S∨b∈Sy∨W.heap.size<=b)->K (a.put o.dst (G A' L c'')) W'):if RV o (Th ops a.tmps)=M then Oper.wp P o a W K Q8 else E:=by
 have hw:RV o (Th ops a.tmps)=M:=by simp[RV,hgd]
 rw[Rs hw];obtain⟨A',c'',W',S',a0,a2,hF,a1⟩:=xT (P:=P) (ty:=o.type) hE h (ad:=⟨g,0,C⟩) (m:=1) (c':=cc) (ys:=[y]) (news:=ec) (Sy:=Sy) ⟨ec,[],Sy,[],by simp,by simp,hy.1,rfl,rfl⟩ rfl (fun j u hu=>by rw[Uk,RF];exact hcell j u hu) hy.2 hd hL hb h63;exact wW s x ho hs hx a0 (hK A' c'' W' S' a2 hF a1)
theorem zJ (hgd:o.guard=C)(s x:Operand)(hE:hU P t e T Ti){W:U}{g cc:Nat}{S Sy:Q Nat}{A:X RJ}{n c:Nat}{xs:Q α}(h:Has (T.sl e) W [G A n c] xs S)
  {ec:Q Value} {y:α} (hy:Has T W ec y Sy) (hd:∀ b∈S,b∉Sy)
  (ho:o.op=.call { callee:=.builtin .append,args:=#[s,x],argTypes:=#[t,t] }) (hs:a.eval s=G A n c) (hx:a.eval x=G (D ⟨g,0,C⟩) 1 cc)
  (hcell:∀(j:Nat) (u:Value),ec[j]?=D u->Rb W ⟨g,j,C⟩=D u)
  {L:Nat} (hL:L=n+1) (hb:L*Ti<=140737488355328) (h63:L<=9223372036854775807)
  (hK:∀ A' c'' W' S',fx S W W'->Has (T.sl e) W' [G A' L c''] (xs++[y]) S'->(∀ b∈S',b∈S∨b∈Sy∨W.heap.size<=b)->wpList P ops Q8 rest (a.put o.dst (G A' L c'')) W'):wpList P ops Q8 (o::rest) a W:=
 US hgd fun K hKK=>by
  obtain⟨A',c'',W',S',a0,a2,hF,a1⟩:=xT (P:=P) (ty:=o.type) hE h (ad:=⟨g,0,C⟩) (m:=1) (c':=cc) (ys:=[y]) (news:=ec) (Sy:=Sy) ⟨ec,[],Sy,[],II,II,hy.1,rfl,rfl⟩ rfl (fun j u hu=>by rw[Uk,RF];exact hcell j u hu) hy.2 hd hL hb h63;exact wW s x ho hs hx a0 (hKK _ _ (hK A' c'' W' S' a2 hF a1))
theorem pY {E:Prop} (hgd:o.guard=C)(s x:Operand)(hE:hU P t e T Ti)(hf:kB T){W W1:U}{B g cc:Nat}{S:Q Nat}{A:X RJ}{n c:Nat}{xs:Q α}(h:Has (T.sl e) W [G A n c] xs S)
  {ec:Q Value} {y:α} (hy:T.R W1 B ec y)
  (ho:o.op=.call { callee:=.builtin .append,args:=#[s,x],argTypes:=#[t,t] }) (hs:a.eval s=G A n c) (hx:a.eval x=G (D ⟨g,0,C⟩) 1 cc)
  (hcell:∀(j:Nat) (u:Value),ec[j]?=D u->Rb W ⟨g,j,C⟩=D u)
  {L:Nat} (hL:L=n+1) (hb:L*Ti<=140737488355328) (h63:L<=9223372036854775807)
  (hK:∀ A' c'' W' S',fx S W W'->Has (T.sl e) W' [G A' L c''] (xs++[y]) S'->(∀ b∈S',b∈S∨W.heap.size<=b)->K (a.put o.dst (G A' L c'')) W'):if RV o (Th ops a.tmps)=M then Oper.wp P o a W K Q8 else E:=
 wU hgd s x hE h (Sy:=[]) ⟨hf hy W,by simp⟩ (by simp) ho hs hx hcell hL hb h63 (fun A' c'' W' S' h1 h2 h3=>hK A' c'' W' S' h1 h2 (fun b hb=>by have:=h3 b hb;simpa using this))
theorem zD (hgd:o.guard=C)(s x:Operand)(hE:hU P t e T Ti)(hf:kB T){W W1:U}{B g cc:Nat}{S:Q Nat}{A:X RJ}{n c:Nat}{xs:Q α}(h:Has (T.sl e) W [G A n c] xs S)
  {ec:Q Value} {y:α} (hy:T.R W1 B ec y)
  (ho:o.op=.call { callee:=.builtin .append,args:=#[s,x],argTypes:=#[t,t] }) (hs:a.eval s=G A n c) (hx:a.eval x=G (D ⟨g,0,C⟩) 1 cc)
  (hcell:∀(j:Nat) (u:Value),ec[j]?=D u->Rb W ⟨g,j,C⟩=D u)
  {L:Nat} (hL:L=n+1) (hb:L*Ti<=140737488355328) (h63:L<=9223372036854775807)
  (hK:∀ A' c'' W' S',fx S W W'->Has (T.sl e) W' [G A' L c''] (xs++[y]) S'->(∀ b∈S',b∈S∨W.heap.size<=b)->wpList P ops Q8 rest (a.put o.dst (G A' L c'')) W'):wpList P ops Q8 (o::rest) a W:=
 zJ hgd s x hE h (Sy:=[]) ⟨hf hy W,II⟩ II ho hs hx hcell hL hb h63 (fun A' c'' W' S' h1 h2 h3=>hK A' c'' W' S' h1 h2 (fun b hb=>by have:=h3 b hb;simpa using this))
theorem DU (hE:hU P t e T Ti)(hf:kB T){ty:R5}{W:U}{S:Q Nat}{A:X RJ}{n c:Nat}{xs:Q α}(h:Has (T.sl e) W [G A n c] xs S)
  {B:Nat} {e':R5} {A2:X RJ} {m c2:Nat} {ys:Q α} (hy:(T.sl e').R W B [G A2 m c2] ys)
  {L:Nat} (hL:L=n+m) (hb:L*Ti<=140737488355328) (h63:L<=9223372036854775807) :
  ∃ A' c'' W' S',(Tk #[t,t] ty #[G A n c,G A2 m c2]).run P W=.ok (G A' L c'') W'/\fx S W W'/\Has (T.sl e) W' [G A' L c''] (xs++ys) S'/\∀ b∈S',b∈S∨W.heap.size<=b:=by
 obtain⟨A3,c3,hv,h1,h2,h3,h4⟩:=hy;injection hv with hv _
 injection hv with hA hn hc
 subst hA hn hc;rcases UA ys.length with h0 | h0
 ·have a1:ys = []:=Uh h0
  subst a1;subst hL;cases A2 with
  | none=>exact⟨A,c,W,S,DS hE h _,fx.refl _ _,by simpa using h,fun b hb=>.inl hb⟩
  | some ad=>
   obtain⟨A',c'',W',S',k1,k2,k3,k4⟩:=xT (P:=P) (ty:=ty) hE h (ad:=ad) (m:=0) (c':=c2) (news:=[]) (ys:=[]) (Sy:=[]) ⟨rfl,rfl⟩ rfl (fun j u hu=>by simp at hu) (by simp) (by simp) rfl hb h63;exact⟨A',c'',W',S',k1,k2,k3,fun b hb=>by have:=k4 b hb;simpa using this⟩
 ·obtain⟨g,off,rfl,a2,h5⟩:=h4 h0
  obtain⟨cs,hr,hl,hc⟩:=Ca (w':=W) hf (g:=g) (off:=off) ys 0 (fun i x hx=>by
   obtain⟨ec,hR,a0⟩:=h5 i x hx
   exact⟨ec,hR,fun j u hu=>by rw[RF];exact a0 j u hu⟩)
  obtain⟨A',c'',W',S',k1,k2,k3,k4⟩:=xT (P:=P) (ty:=ty) hE h (ad:=⟨g,off,C⟩) hr rfl (fun j u hu=>by rw[Uk];simpa using hc j u hu) (by simp) (by simp) hL hb h63;exact⟨A',c'',W',S',k1,k2,k3,fun b hb=>by have:=k4 b hb;simpa using this⟩
theorem zR {E:Prop} (hgd:o.guard=C)(s x:Operand)(hE:hU P t e T Ti)(hf:kB T){W:U}{S:Q Nat}{A:X RJ}{n c:Nat}{xs:Q α}(h:Has (T.sl e) W [G A n c] xs S)
  {B:Nat} {e':R5} {A2:X RJ} {m c2:Nat} {ys:Q α} (hy:(T.sl e').R W B [G A2 m c2] ys)
  (ho:o.op=.call { callee:=.builtin .append,args:=#[s,x],argTypes:=#[t,t] }) (hs:a.eval s=G A n c) (hx:a.eval x=G A2 m c2)
  {L:Nat} (hL:L=n+m) (hb:L*Ti<=140737488355328) (h63:L<=9223372036854775807)
  (hK:∀ A' c'' W' S',fx S W W'->Has (T.sl e) W' [G A' L c''] (xs++ys) S'->(∀ b∈S',b∈S∨W.heap.size<=b)->K (a.put o.dst (G A' L c'')) W'):if RV o (Th ops a.tmps)=M then Oper.wp P o a W K Q8 else E:=by
 have hw:RV o (Th ops a.tmps)=M:=by simp[RV,hgd]
 rw[Rs hw];obtain⟨A',c'',W',S',a0,a2,hF,a1⟩:=DU (P:=P) (ty:=o.type) hE hf h hy hL hb h63;exact wW s x ho hs hx a0 (hK A' c'' W' S' a2 hF a1)
theorem wV (hgd:o.guard=C)(s x:Operand)(hE:hU P t e T Ti)(hf:kB T){W:U}{S:Q Nat}{A:X RJ}{n c:Nat}{xs:Q α}(h:Has (T.sl e) W [G A n c] xs S)
  {B:Nat} {e':R5} {A2:X RJ} {m c2:Nat} {ys:Q α} (hy:(T.sl e').R W B [G A2 m c2] ys)
  (ho:o.op=.call { callee:=.builtin .append,args:=#[s,x],argTypes:=#[t,t] }) (hs:a.eval s=G A n c) (hx:a.eval x=G A2 m c2)
  {L:Nat} (hL:L=n+m) (hb:L*Ti<=140737488355328) (h63:L<=9223372036854775807)
  (hK:∀ A' c'' W' S',fx S W W'->Has (T.sl e) W' [G A' L c''] (xs++ys) S'->(∀ b∈S',b∈S∨W.heap.size<=b)->wpList P ops Q8 rest (a.put o.dst (G A' L c'')) W'):wpList P ops Q8 (o::rest) a W:=
 US hgd fun K hKK=>by
  obtain⟨A',c'',W',S',a0,a2,hF,a1⟩:=DU (P:=P) (ty:=o.type) hE hf h hy hL hb h63;exact wW s x ho hs hx a0 (hKK _ _ (hK A' c'' W' S' a2 hF a1))
end
structure me where
 Code:Int
 Wv:Int
 deriving DecidableEq
def sD:Ty me:=(zr.prod zr).via fun x=>(x.Code,x.Wv)
theorem IY {x:me} (h0:fE x.Code)(h1:fE x.Wv):sD.R w B [J Z x.Code,J Z x.Wv] x:=by
 exact⟨[J Z x.Code],[J Z x.Wv],rfl,⟨rfl,h0.1,h0.2⟩,⟨rfl,h1.1,h1.2⟩⟩
theorem MD:(prog.info? 142).map (fun i=>(i.zero,i.size,i.bytes))=D (D (.agg #[J Z 0,J Z 0]),2,16):=Fs
theorem I1:kB sD:=xt _ (oS zE zE)
theorem Jt:hU prog 195 142 sD 16:=by
 obtain⟨i0,hi,a0,a1,a2⟩:=Tn MD;exact⟨underlying195,⟨i0,_,hi,a0,a1,a2,rfl⟩,qo⟩
structure gB where
 li:Int
 gZ:Int
 pu:N
 deriving DecidableEq
def jf:Ty gB:=(zr.prod (zr.prod iI)).via fun x=>(x.li,x.gZ,x.pu)
theorem QB {x:gB} (h:jf.R w B cs x):cs = [J Z x.li,J Z x.gZ,V x.pu]/\fE x.li/\fE x.gZ/\x.pu.size<=9223372036854775807:=by
 obtain⟨_,_,rfl,⟨rfl,a0,a2⟩,⟨_,_,rfl,⟨rfl,a3,a4⟩,⟨rfl,a1⟩⟩⟩:=h;exact⟨rfl,⟨a0,a2⟩,⟨a3,a4⟩,a1⟩
theorem te {x:gB} (h0:fE x.li)(h1:fE x.gZ)(h2:x.pu.size<=9223372036854775807):jf.R w B [J Z x.li,J Z x.gZ,V x.pu] x:=by
 exact⟨[J Z x.li],[J Z x.gZ,V x.pu],rfl,⟨rfl,h0.1,h0.2⟩,⟨[J Z x.gZ],[V x.pu],rfl,⟨rfl,h1.1,h1.2⟩,⟨rfl,h2⟩⟩⟩
theorem O1 {x:gB} (h0:fE x.li)(h1:fE x.gZ)(h2:x.pu.size<=9223372036854775807):jf.O w [J Z x.li,J Z x.gZ,V x.pu] x ([]):=by
 exact⟨[J Z x.li],[J Z x.gZ,V x.pu],[],([]++[]),rfl,rfl,⟨rfl,h0.1,h0.2,rfl⟩,⟨[J Z x.gZ],[V x.pu],[],[],rfl,rfl,⟨rfl,h1.1,h1.2,rfl⟩,⟨rfl,h2,rfl⟩⟩⟩
structure fw where
 li:Int
 pu:N
 fL:Q N
 Expr:Q gB
 deriving DecidableEq
def zQ:Ty fw:=(zr.prod (iI.prod ((iI.sl 9).prod (jf.sl 160)))).via fun x=>(x.li,x.pu,x.fL,x.Expr)
theorem PL {x:fw} (h:zQ.R w B cs x):∃ A0 c0 A1 c1,cs = [J Z x.li,V x.pu,G A0 x.fL.length c0,G A1 x.Expr.length c1]/\fE x.li/\x.pu.size<=9223372036854775807/\(iI.sl 9).R w B [G A0 x.fL.length c0] x.fL/\(jf.sl 160).R w B [G A1 x.Expr.length c1] x.Expr:=by
 obtain⟨_,_,rfl,⟨rfl,a2,a4⟩,⟨_,_,rfl,⟨rfl,a3⟩,⟨_,_,rfl,a0,a1⟩⟩⟩:=h;obtain⟨A0,c0,rfl,_⟩:=id a0;obtain⟨A1,c1,rfl,_⟩:=id a1;exact⟨A0,c0,A1,c1,rfl,⟨a2,a4⟩,a3,a0,a1⟩
theorem PK {x:fw} (h:zQ.O w cs x S):∃ A0 c0 S0 A1 c1 S1,cs = [J Z x.li,V x.pu,G A0 x.fL.length c0,G A1 x.Expr.length c1]/\S=S0++S1/\fE x.li/\x.pu.size<=9223372036854775807/\(iI.sl 9).O w [G A0 x.fL.length c0] x.fL S0/\(jf.sl 160).O w [G A1 x.Expr.length c1] x.Expr S1:=by
 obtain⟨_,_,_,_,rfl,rfl,⟨rfl,a2,a4,rfl⟩,⟨_,_,_,_,rfl,rfl,⟨rfl,a3,rfl⟩,⟨_,_,_,_,rfl,rfl,a0,a1⟩⟩⟩:=h;obtain⟨A0,c0,_,_,rfl,_⟩:=id a0;obtain⟨A1,c1,_,_,rfl,_⟩:=id a1;exact⟨A0,c0,_,A1,c1,_,rfl,II,⟨a2,a4⟩,a3,a0,a1⟩
theorem yx {x:fw} (A0:X RJ)(c0:Nat)(S0:Q Nat)(A1:X RJ)(c1:Nat)(S1:Q Nat)(h0:fE x.li)(h1:x.pu.size<=9223372036854775807)(h2:(iI.sl 9).O w [G A0 x.fL.length c0] x.fL S0)(h3:(jf.sl 160).O w [G A1 x.Expr.length c1] x.Expr S1):zQ.O w [J Z x.li,V x.pu,G A0 x.fL.length c0,G A1 x.Expr.length c1] x (S0++S1):=by
 have h:zQ.O w [J Z x.li,V x.pu,G A0 x.fL.length c0,G A1 x.Expr.length c1] x ([]++([]++(S0++S1))):=⟨[J Z x.li],[V x.pu,G A0 x.fL.length c0,G A1 x.Expr.length c1],[],([]++(S0++S1)),rfl,rfl,⟨rfl,h0.1,h0.2,rfl⟩,⟨[V x.pu],[G A0 x.fL.length c0,G A1 x.Expr.length c1],[],(S0++S1),rfl,rfl,⟨rfl,h1,rfl⟩,⟨[G A0 x.fL.length c0],[G A1 x.Expr.length c1],S0,S1,rfl,rfl,h2,h3⟩⟩⟩
 simpa using h
structure fY where
 M2:Int
 IR:Int
 Wz:Bool
 NE:Bool
 deriving DecidableEq
structure fM where
 Op:me
 fG:Int
 kw:Bool
 fB:Q Int
 fF:Int
 fD:Bool
 deriving DecidableEq
def ph:Ty fM:=(sD.prod (zr.prod (yJ.prod ((zr.sl 3).prod (zr.prod yJ))))).via fun x=>(x.Op,x.fG,x.kw,x.fB,x.fF,x.fD)
theorem PJ {x:fM} (h:ph.R w B cs x):∃ A0 c0,cs = [J Z x.Op.Code,J Z x.Op.Wv,J Z x.fG,H x.kw,G A0 x.fB.length c0,J Z x.fF,H x.fD]/\fE x.Op.Code/\fE x.Op.Wv/\fE x.fG/\(zr.sl 3).R w B [G A0 x.fB.length c0] x.fB/\fE x.fF:=by
 obtain⟨_,_,rfl,⟨_,_,rfl,⟨rfl,a0,a1⟩,⟨rfl,a3,a4⟩⟩,⟨_,_,rfl,⟨rfl,a7,a8⟩,⟨_,_,rfl,rfl,⟨_,_,rfl,a2,⟨_,_,rfl,⟨rfl,a5,a6⟩,rfl⟩⟩⟩⟩⟩:=h;obtain⟨A0,c0,rfl,_⟩:=id a2;exact⟨A0,c0,rfl,⟨a0,a1⟩,⟨a3,a4⟩,⟨a7,a8⟩,a2,⟨a5,a6⟩⟩
theorem IX {x:fM} (h:ph.O w cs x S):∃ A0 c0 S0,cs = [J Z x.Op.Code,J Z x.Op.Wv,J Z x.fG,H x.kw,G A0 x.fB.length c0,J Z x.fF,H x.fD]/\S=S0/\fE x.Op.Code/\fE x.Op.Wv/\fE x.fG/\(zr.sl 3).O w [G A0 x.fB.length c0] x.fB S0/\fE x.fF:=by
 obtain⟨_,_,_,_,rfl,rfl,⟨_,_,_,_,rfl,rfl,⟨rfl,a0,a1,rfl⟩,⟨rfl,a3,a4,rfl⟩⟩,⟨_,_,_,_,rfl,rfl,⟨rfl,a7,a8,rfl⟩,⟨_,_,_,_,rfl,rfl,⟨rfl,rfl⟩,⟨_,_,_,_,rfl,rfl,a2,⟨_,_,_,_,rfl,rfl,⟨rfl,a5,a6,rfl⟩,⟨rfl,rfl⟩⟩⟩⟩⟩⟩:=h;obtain⟨A0,c0,_,_,rfl,_⟩:=id a2;exact⟨A0,c0,_,rfl,II,⟨a0,a1⟩,⟨a3,a4⟩,⟨a7,a8⟩,a2,⟨a5,a6⟩⟩
theorem CL {x:fM} (A0:X RJ)(c0:Nat)(S0:Q Nat)(h0:fE x.Op.Code)(h1:fE x.Op.Wv)(h2:fE x.fG)(h3:(zr.sl 3).O w [G A0 x.fB.length c0] x.fB S0)(h4:fE x.fF):ph.O w [J Z x.Op.Code,J Z x.Op.Wv,J Z x.fG,H x.kw,G A0 x.fB.length c0,J Z x.fF,H x.fD] x (S0):=by
 have h:ph.O w [J Z x.Op.Code,J Z x.Op.Wv,J Z x.fG,H x.kw,G A0 x.fB.length c0,J Z x.fF,H x.fD] x (([]++[])++([]++([]++(S0++([]++[]))))):=⟨[J Z x.Op.Code,J Z x.Op.Wv],[J Z x.fG,H x.kw,G A0 x.fB.length c0,J Z x.fF,H x.fD],([]++[]),([]++([]++(S0++([]++[])))),rfl,rfl,⟨[J Z x.Op.Code],[J Z x.Op.Wv],[],[],rfl,rfl,⟨rfl,h0.1,h0.2,rfl⟩,⟨rfl,h1.1,h1.2,rfl⟩⟩,⟨[J Z x.fG],[H x.kw,G A0 x.fB.length c0,J Z x.fF,H x.fD],[],([]++(S0++([]++[]))),rfl,rfl,⟨rfl,h2.1,h2.2,rfl⟩,⟨[H x.kw],[G A0 x.fB.length c0,J Z x.fF,H x.fD],[],(S0++([]++[])),rfl,rfl,⟨rfl,rfl⟩,⟨[G A0 x.fB.length c0],[J Z x.fF,H x.fD],S0,([]++[]),rfl,rfl,h3,⟨[J Z x.fF],[H x.fD],[],[],rfl,rfl,⟨rfl,h4.1,h4.2,rfl⟩,⟨rfl,rfl⟩⟩⟩⟩⟩⟩
 simpa using h
structure fK where
 us:Int
 lw:fM
 deriving DecidableEq
def uc:Ty fK:=(zr.prod ph).via fun x=>(x.us,x.lw)
theorem O0 {x:fK} (h:uc.R w B cs x):∃ A0 c0,cs = [J Z x.us,J Z x.lw.Op.Code,J Z x.lw.Op.Wv,J Z x.lw.fG,H x.lw.kw,G A0 x.lw.fB.length c0,J Z x.lw.fF,H x.lw.fD]/\fE x.us/\fE x.lw.Op.Code/\fE x.lw.Op.Wv/\fE x.lw.fG/\(zr.sl 3).R w B [G A0 x.lw.fB.length c0] x.lw.fB/\fE x.lw.fF:=by
 obtain⟨_,_,rfl,⟨rfl,a9,aa⟩,⟨_,_,rfl,⟨_,_,rfl,⟨rfl,a1,a2⟩,⟨rfl,a3,a4⟩⟩,⟨_,_,rfl,⟨rfl,a7,a8⟩,⟨_,_,rfl,rfl,⟨_,_,rfl,a0,⟨_,_,rfl,⟨rfl,a5,a6⟩,rfl⟩⟩⟩⟩⟩⟩:=h;obtain⟨A0,c0,rfl,_⟩:=id a0;exact⟨A0,c0,rfl,⟨a9,aa⟩,⟨a1,a2⟩,⟨a3,a4⟩,⟨a7,a8⟩,a0,⟨a5,a6⟩⟩
theorem Mz {x:fK} (A0:X RJ)(c0:Nat)(h0:fE x.us)(h1:fE x.lw.Op.Code)(h2:fE x.lw.Op.Wv)(h3:fE x.lw.fG)(h4:(zr.sl 3).R w B [G A0 x.lw.fB.length c0] x.lw.fB)(h5:fE x.lw.fF):uc.R w B [J Z x.us,J Z x.lw.Op.Code,J Z x.lw.Op.Wv,J Z x.lw.fG,H x.lw.kw,G A0 x.lw.fB.length c0,J Z x.lw.fF,H x.lw.fD] x:=by
 exact⟨[J Z x.us],[J Z x.lw.Op.Code,J Z x.lw.Op.Wv,J Z x.lw.fG,H x.lw.kw,G A0 x.lw.fB.length c0,J Z x.lw.fF,H x.lw.fD],rfl,⟨rfl,h0.1,h0.2⟩,⟨[J Z x.lw.Op.Code,J Z x.lw.Op.Wv],[J Z x.lw.fG,H x.lw.kw,G A0 x.lw.fB.length c0,J Z x.lw.fF,H x.lw.fD],rfl,⟨[J Z x.lw.Op.Code],[J Z x.lw.Op.Wv],rfl,⟨rfl,h1.1,h1.2⟩,⟨rfl,h2.1,h2.2⟩⟩,⟨[J Z x.lw.fG],[H x.lw.kw,G A0 x.lw.fB.length c0,J Z x.lw.fF,H x.lw.fD],rfl,⟨rfl,h3.1,h3.2⟩,⟨[H x.lw.kw],[G A0 x.lw.fB.length c0,J Z x.lw.fF,H x.lw.fD],rfl,rfl,⟨[G A0 x.lw.fB.length c0],[J Z x.lw.fF,H x.lw.fD],rfl,h4,⟨[J Z x.lw.fF],[H x.lw.fD],rfl,⟨rfl,h5.1,h5.2⟩,rfl⟩⟩⟩⟩⟩⟩
theorem ue {xs:Q gB} (h:(jf.sl e).R w B [G A n c] xs){k:Nat}(hk:k<xs.length) :
  ∃ g off x ,A=D ⟨g,off,C⟩/\g<B/\xs[k]?=D x/\Rb w ⟨g,off+k*3,C⟩=D (J Z x.li)/\Rb w ⟨g,off+k*3+1,C⟩=D (J Z x.gZ)/\Rb w ⟨g,off+k*3+2,C⟩=D (V x.pu)/\fE x.li/\fE x.gZ/\x.pu.size<=9223372036854775807:=by
 obtain⟨g,off,x,ec,h1,hB,h2,h3,h4⟩:=nU h hk;obtain⟨rfl,hf⟩:=QB h3;exact⟨g,off,x,h1,hB,h2,h4 0 _ rfl,h4 1 _ rfl,h4 2 _ rfl,hf⟩
theorem Mm:(prog.info? 160).map (fun i=>(i.zero,i.size,i.bytes))=D (D (.agg #[J Z 0,J Z 0,V ⟨#[]⟩]),3,32):=Fs
theorem pZ:kB jf:=xt _ (oS zE (oS zE lA))
theorem yK:hU prog 97 160 jf 32:=by
 obtain⟨i0,hi,a0,a1,a2⟩:=Tn Mm;exact⟨underlying97,⟨i0,_,hi,a0,a1,a2,rfl⟩,qo⟩
def Wy:N:=⟨#[]⟩
def lx (t:gB):Bool:=
 if t.li=0 then fP t.gZ 0 999 && decide (t.pu=Wy)
 else if t.li=1 then decide (t.gZ=0) && kZ t.pu
 else if t.li=7 then fP t.gZ 0 4 && kZ t.pu
 else fP t.li 2 6 && (decide (t.gZ=0) && decide (t.pu=Wy))
def jo (t:gB):Int:=if lx t=M then (if t.li=7 then t.gZ else if t.li=0∨t.li=1 then 0 else 2) else -1
theorem Bd {t:gB} (h:lx t=M):0<=jo t/\jo t<=4:=by
 unfold jo;rw[Rs h];split
 ·rename_i hk
  unfold lx at h;rw[Ro K9,Ro K9,Rs hk,Rq,zu] at h;exact h.1
 ·split <;> omega
def n9:Q gB->Nat->Nat->Int
 | _,0,k=>k
 | [],_+1,_=>-1
 | t::r,n+1,k=>if lx t=M then n9 r (n+(jo t).toNat) (k+1) else -1
def mF (xs:Q gB)(a:Int):Int:=if a<0 then -1 else n9 (xs.drop a.toNat) 1 a.toNat
def pL (xs:Q gB):Bool:=decide (0<xs.length) && (decide (xs.length<=20) && decide (mF xs 0=xs.length))
mutual
inductive Ex where
 | node:gB->gu->Ex
inductive gu where
 | nil:gu
 | cons:Ex->gu->gu
end
mutual
def Ex.flat:Ex->Q gB
 | .node t ks=>t::ks.flat
def gu.flat:gu->Q gB
 | .nil=>[]
 | .cons e r=>e.flat++r.flat
end
mutual
def Ex.size:Ex->Nat
 | .node _ ks=>ks.size+1
def gu.size:gu->Nat
 | .nil=>0
 | .cons e r=>e.size+r.size
end
def gu.len:gu->Nat
 | .nil=>0
 | .cons _ r=>r.len+1
mutual
def Ex.wf:Ex->Prop
 | .node t ks=>lx t=M/\jo t=ks.len/\ks.wf
def gu.wf:gu->Prop
 | .nil=>True
 | .cons e r=>e.wf/\r.wf
end
mutual
theorem Ex.gj:∀ e:Ex,e.flat.length=e.size
 | .node t ks=>by simp only[Ex.flat,Ex.size,RA,gu.gj ks]
theorem gu.gj:∀ ks:gu,ks.flat.length=ks.size
 | .nil=>rfl
 | .cons e r=>by simp only[gu.flat,gu.size,Rh,Ex.gj e,gu.gj r]
end
theorem Ex.size_pos:∀ e:Ex,0<e.size
 | .node _ _=>by simp only[Ex.size];omega
theorem gu.kr:∀ ks:gu,ks.len<=ks.size
 | .nil=>Ru _
 | .cons e r=>by
  have h1:=gu.kr r;have h2:=e.size_pos;simp only[gu.len,gu.size];omega
mutual
theorem Ex.l5:∀(e:Ex),e.wf->∀(r:Q gB)(n k:Nat),n9 (e.flat++r) (n+1) k=n9 r n (k+e.size)
 | .node t ks,h,r,n,k=>by
  obtain⟨h1,h2,h3⟩:=h;simp only[Ex.flat,TQ,Ex.size,n9];rw[Rs h1,h2,Ry,gu.l5 ks h3];congr 1;omega
theorem gu.l5:∀(ks:gu),ks.wf->∀(r:Q gB)(n k:Nat),n9 (ks.flat++r) (n+ks.len) k=n9 r n (k+ks.size)
 | .nil,_,r,n,k=>rfl
 | .cons e q,h,r,n,k=>by
  simp only[gu.flat,gu.len,gu.size,RU];rw[<-U5,Ex.l5 e h.1,gu.l5 q h.2];congr 1;omega
end
def gu.split:Nat->gu->gu × gu
 | 0,ks=>(.nil,ks)
 | _+1,.nil=>(.nil,.nil)
 | n+1,.cons e r=>(.cons e (gu.split n r).1,(gu.split n r).2)
theorem gu.nQ:∀(n:Nat)(ks:gu),n<=ks.len->ks.wf->(gu.split n ks).1.len=n/\(gu.split n ks).1.wf/\(gu.split n ks).2.wf/\(gu.split n ks).2.len=ks.len-n/\(gu.split n ks).1.flat++(gu.split n ks).2.flat=ks.flat/\(gu.split n ks).1.size+(gu.split n ks).2.size=ks.size
 | 0,ks,_,h=>⟨rfl,trivial,h,rfl,rfl,by simp[gu.split,gu.size]⟩
 | n+1,.nil,hn,_=>absurd hn (by simp[gu.len])
 | n+1,.cons e r,hn,h=>by
  obtain⟨h1,h2,h3,h4,h5,h6⟩:=gu.nQ n r (by simp only[gu.len] at hn;omega) h.2;simp only[gu.split,gu.len,gu.flat,gu.size,RU,h5];exact⟨K9,⟨h.1,h2⟩,h3,K9,trivial,K9⟩
theorem Fa:∀(xs:Q gB)(n k:Nat)(m:Int),n9 xs n k=m->0<=m->∃(ks:gu)(r:Q gB),ks.len=n/\ks.wf/\xs=ks.flat++r/\m=k+ks.size
 | xs,0,k,m,h,_=>⟨.nil,xs,rfl,trivial,rfl,by cases xs <;> (simp only[n9] at h;simp only[gu.size];omega)⟩
 | [],n+1,k,m,h,hm=>by simp only[n9] at h;omega
 | t::r,n+1,k,m,h,hm=>by
  simp only[n9] at h;cases ht:lx t with
  | false=>rw[Ro (by simp[ht])] at h;omega
  | true=>
   rw[Rs ht] at h;have ha:=Bd ht;obtain⟨ks,r',h1,h2,h3,h4⟩:=Fa r _ _ m h hm;obtain⟨g1,g2,g3,g4,g5,g6⟩:=gu.nQ (jo t).toNat ks K9 h2;refine⟨.cons (.node t (gu.split (jo t).toNat ks).1) (gu.split (jo t).toNat ks).2,r',?_,⟨⟨ht,by rw[g1];omega,g2⟩,g3⟩,?_,?_⟩
   ·simp only[gu.len,g4];omega
   ·rw[h3];simp only[gu.flat,Ex.flat,TQ,<-g5,RU]
   ·simp only[gu.size,Ex.size];omega
theorem KB {xs:Q gB} {a:Nat} {m:Int} (h:mF xs a=m)(hm:0<=m):∃(e:Ex)(r:Q gB),e.wf/\xs.drop a=e.flat++r/\m=a+e.size:=by
 unfold mF at h;rw[Ro K9,Ry] at h;obtain⟨ks,r,h1,h2,h3,h4⟩:=Fa _ _ _ m h hm
 match ks,h1,h2,h3,h4 with
 | .cons e .nil,_,h2,h3,h4=>exact⟨e,r,h2.1,by simpa[gu.flat] using h3,by simpa[gu.size] using h4⟩
theorem Cp {xs:Q gB} {a:Nat} {e:Ex} {r:Q gB} (he:e.wf)(h:xs.drop a=e.flat++r):mF xs a=((a+e.size:Nat):Int):=by
 unfold mF;rw[Ro K9,Ry,h,Ex.l5 e he r 0 a];cases r <;> rfl
theorem EY {xs:Q gB} (h:pL xs=M):∃ e:Ex,e.wf/\xs=e.flat/\xs.length<=20:=by
 unfold pL at h;simp only[Rq,RC] at h;obtain⟨h1,h2,h3⟩:=h;obtain⟨e,r,g1,g2,g3⟩:=KB (a:=0) (m:=xs.length) h3 K9;rw[Sx] at g2;refine⟨e,g1,?_,h2⟩;have hl:=Ta List.length g2;rw[Rh,e.gj] at hl;have hr:r.length=0:=K9;rw[TH.1 hr,Tl] at g2;exact g2
theorem Ex.ok {e:Ex} (he:e.wf)(h:e.size<=20):pL e.flat=M:=by
 unfold pL;simp only[Rq,RC,e.gj];refine⟨e.size_pos,h,?_⟩;have:=Cp (xs:=e.flat) (a:=0) (e:=e) (r:=[]) he II;rw[show ((0:Nat):Int)=0 from rfl] at this;rw[this];simp
def gu.gP:gu->Nat->Q Int
 | .nil,_=>[]
 | .cons e r,k=>(k:Int)::r.gP (k+e.size)
theorem gu.ku:∀(ks:gu)(k:Nat),(ks.gP k).length=ks.len
 | .nil,_=>rfl
 | .cons _ r,k=>by simp[gu.gP,gu.len,gu.ku r]
theorem xp {α:Type} {xs:Q α} {x:α} {r:Q α} (h:xs.drop k=x::r):xs[k]?=D x/\xs.drop (k+1)=r:=by
 constructor
 ·have:=Ta (fun l=>l[0]?) h
  simpa[TT] using this
 ·rw[<-Uf,h];rfl
end Go.Proofs.YthgbglbaemelhaaGreat
