/-
  PART.
-/
import Derived.Test.YthgbglbaemelhaaGreatM9LawThreadsApart
import Derived.Deep.AppendSrc
import Derived.Deep.MidRow
import Derived.Laws.IdiomStrings
set_option linter.unusedVariables false
set_option linter.unusedSimpArgs false
set_option maxRecDepth 100000
set_option maxHeartbeats 8000000
namespace Go.Proofs.YthgbglbaemelhaaGreat
open Value renaming slice->G,int->J,bool->H,string->V
open IntKind renaming i64->Z,wrap->Rg
open Option renaming none->C,some->D
open Obj renaming cells->F
open Bool renaming false->I,true->M
open Go renaming World->U,Calls->RD,Addr->RJ,TypeId->R5
open List renaming length_cons->RA
open RowKit renaming intOf->RS,wrap64->SN
open _root_.Array renaming length_toList->Sk
open UInt8 renaming ofNat->Tr
open Tryz
open Go.RowKit
variable {L:Q UInt8}{a:Int}{acc l:Q Int}{d f j m q t z:Nat}{out:Q fw}{s:N}
def sC (x:fw):Prop:=x.li≠0/\x.Expr.length<=7/\x.fL = []
theorem rV {g:Prop} (f:g:=by
  intro x hx
  rcases Rr.1 hx with hx | hx
  ·exact h x hx
  ·rw[Rc.1 hx];exact hy):g:=f
theorem s8 (h:∀ x∈out,sC x){y:fw}(hy:sC y):∀ x∈out++[y],sC x:=by
 exact rV
theorem Du {o:Q fw} (h:∀ x∈out,sC x)(ho:∀ x∈o,sC x):∀ x∈out++o,sC x:=fun x hx=>(Rr.1 hx).elim (h x) (ho x)
def cb:Nat->Nat
 | 0=>1
 | d+1=>4+3*cb d
theorem Bw (d:Nat):1<=cb d:=by cases d <;> simp[cb] <;> omega
theorem BC (h:d<=2):cb d<=25:=by
 have:d=0∨d=1∨d=2:=K9;rcases this with rfl | rfl | rfl <;> decide
theorem Ii (h:0<d):cb d=4+3*cb (d-1):=by
 obtain⟨e,rfl⟩:∃ e,d=e+1:=⟨d-1,K9⟩
 rfl
theorem Jh {W:U} {k1 m1 k2 m2 k3 m3:Int} {s1 s2 s3:N} (a1:fE k1)(a2:fE m1)(a3:s1.size<=9223372036854775807)(b1:fE k2)(b2:fE m2)(b3:s2.size<=9223372036854775807)(c1:fE k3)(c2:fE m3)(c3:s3.size<=9223372036854775807) :
  Has (jf.sl 160) (W.alloc (F #[J Z k1,J Z m1,V s1,J Z k2,J Z m2,V s2,J Z k3,J Z m3,V s3] 160)) [G (D ⟨W.heap.size,0,C⟩) [gB.mk k1 m1 s1,⟨k2,m2,s2⟩,⟨k3,m3,s3⟩].length 3] [⟨k1,m1,s1⟩,⟨k2,m2,s2⟩,⟨k3,m3,s3⟩] [W.heap.size]:=
 ⟨qi (xs:=[⟨k1,m1,s1⟩,⟨k2,m2,s2⟩,⟨k3,m3,s3⟩]) (Re W _) (show AC jf _ _ _ [] from⟨[J Z k1,J Z m1,V s1],_,[],[],rfl,rfl,pZ (te (w:=W) (B:=0) (x:=⟨k1,m1,s1⟩) a1 a2 a3) _,⟨[J Z k2,J Z m2,V s2],_,[],[],rfl,rfl,pZ (te (w:=W) (B:=0) (x:=⟨k2,m2,s2⟩) b1 b2 b3) _,⟨[J Z k3,J Z m3,V s3],_,[],[],rfl,rfl,pZ (te (w:=W) (B:=0) (x:=⟨k3,m3,s3⟩) c1 c2 c3) _,⟨rfl,rfl⟩⟩⟩⟩) II,II⟩
def Qi (w W:U)(k m:Nat)(e:Ending)(W':U):Prop:=∃ A n c out S,e=.returned (G A n c)/\n<=m/\(∀ x∈out,sC x)/\gN zQ 99 w W W' k A n c out S
theorem gN.Wy {α:Type}{T:Ty α}{t:R5}{w W0 W:U}{k:Nat}(hC:iO w W k)(hs:fx [k] W0 W)(hk:k<W0.heap.size):gN T t w W0 (W.alloc (F #[] t)) k (D ⟨W.heap.size,0,C⟩) 0 0 [] [W.heap.size]:=
 ⟨hC.more gG,hs.trans (fu.only gG _),Has.Wy T (Re W _),fun b hb=>by have:=hs.size;simp at hb;omega,hk,rfl⟩
theorem WZ {g:Prop} (f:g:=by
  go_upto_if 24 with(go_at_call 103;(with_reducible refine(zhc h1.cur 3 qo qo).mono ?_);rintro e W5 ⟨b,rfl,hC5,hS5⟩)
  have h5:=h1.call hS5 hC5
  cases b with
  | false=>
   go_wp2_with(fail)
   go_roundw
   exact⟨r-1,n7,A7,c7,out,S,Ar,K9,rfl,K9,HL,fh h5⟩
   exact gM
  | true=>
   go_wp2_with(first
    | (go_at_call 157;(with_reducible refine(zej (n:=4) (m:=4) qo qo h5.cur (hB.only h5.only)).mono ?_);rintro e W6 ⟨B6,d6,o6,S6,rfl,hl6,hC6,hS6,hH6,hlo6⟩;have h6:=h5.call hS6 hC6)
    | (refine zJ (L:=n7+1) rfl (.tmp 25) (.tmp 29) ng (h6.fy gF).has ((tC (kd:=6) (nm:={ data:=#[] }) ⟨qo,qo⟩ qo hH6).fy gF) (fun b hb hm=>by have k1:=hlo6 b hm;have k2:=h5.has.lt b hb;omega) rfl rfl rfl (by intro j u hu;simpa[go_sem] using hu) rfl K9 K9 ?_;intro B7 d7 W7 S7 hon7 hH7 hS7;have h7:=(h6.fy gF).next hon7 hH7 hS7 (fun b hb=>by have k1:=hlo6 b hb;have k2:=h5.only.size;omega) (by rw[Rh,<-h6.len];rfl)))
   go_roundw
   exact⟨r-1,_,B7,d7,_,S7,Ar,K9,rfl,K9,fh (s8 HL.out ⟨II,by have:=hl6;simp only[ns] at this;simpa using this,rfl⟩),fh h7⟩
   exact gM):g:=f
theorem WL {g:Prop} (f:g:=by
  go_roundw
  exact⟨r-1,_,B7,d7,_,S7,Ar,K9,rfl,K9,fh (s8 HL.out ⟨II,by have:=hl6;simp only[ns] at this;simpa using this,rfl⟩),fh h7⟩
  exact gM):g:=f
theorem zqM:∀(d:Nat),d<=2->∀(n:Nat),n<=4->∀(m:Int),m=(n:Int)->∀(dd:Int),dd=(d:Int)->∀{w W:U}{k gb:Nat}{A0:X RJ}{c0:Nat}{vars:Q N}{A1:X RJ}{c1:Nat}{names:Q N}{A2:X RJ}{c2:Nat}{ars:Q Int}(_:iO w W k)(_:jJ W k gb A0 c0 vars A1 c1 names A2 c2 ars),
  RD prog 156 #[.pointer (D ⟨gb,0,C⟩),J Z m,J Z dd] W (Qi w W k (n*cb d)):=by
 intro d;induction d using Nat.strongRecOn with
 | _ d ih=>
 rintro hd n hn m rfl dd rfl w W k gb A0 c0 vars A1 c1 names A2 c2 ars hC hB;have IH:=fh ih;clear ih;have ao:=BC hd;have aA:=Bw d;go_enter func156,ntmps156;go_upto_region 1 with(fail);go_upto_if 999 with(fail)
 have h0:=gN.Wy (T:=zQ) (t:=99) hC (fx.refl [k] W) hC.lt;generalize (W.alloc _)=Y at h0 |-;go_loopw [1,7] (fun a o wr=>∃(r n7:Nat) (A7:X RJ) (c7:Nat) (out:Q fw) (S:Q Nat),a=J Z r/\r<=n/\o=G A7 n7 c7/\n7+r*cb d<=n*cb d/\Hid (∀ x∈out,sC x)/\Hid (gN zQ 99 w W wr k A7 n7 c7 out S)) (fun a _ _=>(RS a).toNat)
 case atStart=>exact⟨n,0,_,0,[],_,rfl,Ru _,rfl,K9,fh (fun x hx=>by cases hx),fh h0⟩
 clear h0;obtain⟨r,n7,A7,c7,out,S,rfl,hr,rfl,aC,HL,HG⟩:=hrel;have h1:=HG.out;have aD:n*cb d<=100:=RG (U0 hn ao) qo;by_cases hlt:0<r
 ·have ac:(0:Int)<(r:Int):=K9
  have aJ:Rg Z ((r:Int)-1)=(r:Int)-1:=iw
  have aG:r*cb d=(r-1)*cb d+cb d:=by
   obtain⟨q,rfl⟩:∃ q,r=q+1:=⟨r-1,K9⟩
   rw[Nat.add_sub_cancel,UM,Ur]
  have aF:=Bw d;obtain⟨b0,b1,b2,b3,bf,bl⟩:=iL (hB.only h1.only).iX;go_upto_region 7 with(go_at_call 36;(with_reducible refine(nS h1.cur 9 qo qo).mono ?_);rintro e W2 ⟨x,rfl,hx,ai,aj⟩);have h1:=h1.call aj ai;clear b0 b1 b2 b3 bf bl aj ai;obtain⟨b0,b1,b2,b3,bf,bl⟩:=iL (hB.only h1.only).iX;by_cases hx4:x<4
  ·have ad:(x:Int)<4:=K9
   have aI:=hB.some_;have aH:=hB.nP.lv;go_upto_region 8 with(fail);go_cut [9] from 34 to 50 (fun v wx=>∃ nm,v=V nm/\nm.size<=9223372036854775807/\Hid (gN zQ 99 w W wx k A7 n7 c7 out S))
   case first=>
    go_region_law (first | (go_simp;go_at_call 36;(with_reducible refine(nS (h1.cur.more gF) (vars.length:Int) K9 K9).mono ?_);rintro e W3 ⟨j,rfl,hj,a4,a5⟩;have h3:=(h1.fy gF).call a5 a4;obtain⟨b0,b1,b2,b3,bf,bl⟩:=iL (hB.only h3.only).iX;obtain⟨g0,o0,nm,al,aE,az,a1⟩:=wF (hB.nP.only h3.only).v (k:=j) K9;subst al))
    all_goals go_wp2_with(fail)
    all_goals go_meet
    all_goals exact⟨nm,rfl,a1,fh (h3.fy gF)⟩
   obtain⟨nm,rfl,a1,H1⟩:=hcut;clear h1 b0 b1 b2 b3 bf bl;have h1:=H1.out
   go_wp2_with(first
     | (go_at_call 157;(with_reducible refine(zej (n:=6) (m:=6) qo qo h1.cur (hB.only h1.only)).mono ?_);rintro e W6 ⟨B6,d6,o6,S6,rfl,hl6,hC6,hS6,hH6,hlo6⟩;have h6:=h1.call hS6 hC6)
     | (refine zJ (L:=n7+1) rfl (.tmp 50) (.tmp 55) ng (h6.fy gF).has ((tC (kd:=1) (nm:=nm) ⟨qo,qo⟩ a1 hH6).fy gF) (fun b hb hm=>by have k1:=hlo6 b hm;have k2:=h1.has.lt b hb;omega) rfl rfl rfl (by intro j u hu;simpa[go_sem] using hu) rfl K9 K9 ?_;intro B7 d7 W7 S7 hon7 hH7 hS7;have h7:=(h6.fy gF).next hon7 hH7 hS7 (fun b hb=>by have k1:=hlo6 b hb;have k2:=h1.only.size;omega) (by rw[Rh,<-h6.len];rfl)))
   exact WL
  have ad:¬ ((x:Int)<4):=K9;by_cases hx6:x<6
  ·have ae:(x:Int)<6:=K9
   go_wp2_with(first
     | (go_at_call 157;(with_reducible refine(zej (n:=5) (m:=5) qo qo h1.cur (hB.only h1.only)).mono ?_);rintro e W6 ⟨B6,d6,o6,S6,rfl,hl6,hC6,hS6,hH6,hlo6⟩;have h6:=h1.call hS6 hC6)
     | (refine zJ (L:=n7+1) rfl (.tmp 60) (.tmp 64) ng (h6.fy gF).has ((tC (kd:=2) (nm:={ data:=#[] }) ⟨qo,qo⟩ qo hH6).fy gF) (fun b hb hm=>by have k1:=hlo6 b hm;have k2:=h1.has.lt b hb;omega) rfl rfl rfl (by intro j u hu;simpa[go_sem] using hu) rfl K9 K9 ?_;intro B7 d7 W7 S7 hon7 hH7 hS7;have h7:=(h6.fy gF).next hon7 hH7 hS7 (fun b hb=>by have k1:=hlo6 b hb;have k2:=h1.only.size;omega) (by rw[Rh,<-h6.len];rfl)))
   exact WL
  have ae:¬ ((x:Int)<6):=K9;by_cases hif:x=6/\0<d
  ·obtain⟨a8,a9⟩:=hif
   have af:((x:Int) == 6)=M:=by rw[a8];rfl
   have aa:(0:Int)<(d:Int):=K9;have a6:d-1<d:=K9;have a3:d-1<=2:=K9;have aw:Rg Z ((d:Int)-1)=(d:Int)-1:=iw;have ap:=Ii a9;have aq:=Bw (d-1)
   go_upto_region 14 with(first
     | (go_at_call 157;(with_reducible refine(zej (n:=4) (m:=4) qo qo h1.cur (hB.only h1.only)).mono ?_);rintro e W6 ⟨B6,d6,o6,S6,rfl,hl6,hC6,hS6,hH6,hlo6⟩;have h6:=h1.call hS6 hC6)
     | (refine zJ (L:=n7+1) rfl (.tmp 73) (.tmp 77) ng (h6.fy gF).has ((tC (kd:=3) (nm:={ data:=#[] }) ⟨qo,qo⟩ qo hH6).fy gF) (fun b hb hm=>by have k1:=hlo6 b hm;have k2:=h1.has.lt b hb;omega) rfl rfl rfl (by intro j u hu;simpa[go_sem] using hu) rfl K9 K9 ?_;intro B7 d7 W7 S7 hon7 hH7 hS7;have h2:=(h6.fy gF).next hon7 hH7 hS7 (fun b hb=>by have k1:=hlo6 b hb;have k2:=h1.only.size;omega) (by rw[Rh,<-h6.len];rfl)))
   have L2:=s8 HL.out (y:=⟨3,{ data:=#[] },[],o6⟩) ⟨II,by have:=hl6;simp only[ns] at this;simpa using this,rfl⟩;clear b0 b1 b2 b3 bf bl;obtain⟨b0,b1,b2,b3,bf,bl⟩:=iL (hB.only h2.only).iX;have a7:∀ q,q<=2->q*cb (d-1)<=2*cb (d-1):=fun q hq=>Tb _ hq;have an:=BC a3
   go_upto_region 15 with(first
     | (go_at_call 36;(with_reducible refine(nS h2.cur 2 qo qo).mono ?_);rintro e W3 ⟨y,rfl,hy,a4,a5⟩;have h3:=h2.call a5 a4;have ax:Rg Z (1+(y:Int))=1+y:=iw)
     | (go_at_call 156;(with_reducible refine(IH.out (d-1) a6 a3 (1+y) K9 _ K9 _ K9 h3.cur (hB.only h3.only)).mono ?_);rintro e W6 ⟨B6,n6,d6,o6,S6,rfl,aB,ar,h6⟩;have ah:=h3.call h6.only h6.cur;have ay:=a7 (1+y) K9)
     | (refine yV (L:=n7+1+n6) rfl (.tmp 79) (.tmp 89) ng ah.has h6.has (fun b hb hm=>by have k1:=h6.lo b hm;have k2:=h3.has.lt b hb;omega) rfl rfl rfl rfl K9 K9 ?_;intro B7 d7 W7 S7 hon7 hH7 hS7;have h4:=ah.next hon7 hH7 hS7 (fun b hb=>by have k1:=h6.lo b hb;have k2:=h3.only.size;omega) (by rw[Rh,<-ah.len,<-h6.len])))
   have L4:=Du L2 ar;clear b0 b1 b2 b3 bf bl;obtain⟨b0,b1,b2,b3,bf,bl⟩:=iL (hB.only h4.only).iX;have av:n7+1+n6<=n7+1+2*cb (d-1):=K9;go_upto_if 95 with(go_at_call 103;(with_reducible refine(zhc h4.cur 2 qo qo).mono ?_);rintro e W5 ⟨b,rfl,hC5,hS5⟩)
   have h5:=h4.call hS5 hC5;cases b with
   | false=>
    go_wp2_with(first
     | (refine zJ (L:=n7+1+n6+1) rfl (.tmp 106) (.tmp 108) ng (Sy:=[]) (h5.fy gF).has (yd (kd:=7) ⟨qo,qo⟩) (fun b hb hm=>by cases hm) rfl rfl rfl (by intro j u hu;simpa[go_sem] using hu) rfl K9 K9 ?_;intro B7 d7 W7 S7 hon7 hH7 hS7;have h9:=(h5.fy gF).next hon7 hH7 hS7 (fun b hb=>by cases hb) (by rw[Rh,<-h5.len];rfl)))
    go_roundw;exact⟨r-1,_,B7,d7,_,S7,Ar,K9,rfl,K9,fh (s8 L4 ⟨II,II,rfl⟩),fh h9⟩;exact gM
   | true=>
    go_upto_region 17 with(first
     | (refine zJ (L:=n7+1+n6+1) rfl (.tmp 96) (.tmp 98) ng (Sy:=[]) (h5.fy gF).has (yd (kd:=4) ⟨qo,qo⟩) (fun b hb hm=>by cases hm) rfl rfl rfl (by intro j u hu;simpa[go_sem] using hu) rfl K9 K9 ?_;intro B7 d7 W7 S7 hon7 hH7 hS7;have h7:=(h5.fy gF).next hon7 hH7 hS7 (fun b hb=>by cases hb) (by rw[Rh,<-h5.len];rfl)))
    go_upto_region 18 with(first
     | (go_at_call 156;(with_reducible refine(IH.out (d-1) a6 a3 1 K9 _ K9 _ K9 h7.cur (hB.only h7.only)).mono ?_);rintro e W8 ⟨B8,n8,d8,o8,S8,rfl,au,ab,h8⟩;have a2:=h7.call h8.only h8.cur;have am:=a7 1 K9)
     | (refine yV (L:=n7+1+n6+1+n8) rfl (.tmp 100) (.tmp 104) ng a2.has h8.has (fun b hb hm=>by have k1:=h8.lo b hm;have k2:=h7.has.lt b hb;omega) rfl rfl rfl rfl K9 K9 ?_;intro B7 d7 W7 S7 hon7 hH7 hS7;have h9:=a2.next hon7 hH7 hS7 (fun b hb=>by have k1:=h8.lo b hb;have k2:=h7.only.size;omega) (by rw[Rh,<-a2.len,<-h8.len])))
    have L9:=Du (s8 L4 (y:=⟨4,{ data:=#[] },[],[]⟩) ⟨II,II,rfl⟩) ab
    go_wp2_with(first
     | (refine zJ (L:=n7+1+n6+1+n8+1) rfl (.tmp 106) (.tmp 108) ng (Sy:=[]) (h9.fy gF).has (yd (kd:=7) ⟨qo,qo⟩) (fun b hb hm=>by cases hm) rfl rfl rfl (by intro j u hu;simpa[go_sem] using hu) rfl K9 K9 ?_;intro B7 d7 W7 S7 hon7 hH7 hS7;have hz:=(h9.fy gF).next hon7 hH7 hS7 (fun b hb=>by cases hb) (by rw[Rh,<-h9.len];rfl)))
    go_roundw;exact⟨r-1,_,B7,d7,_,S7,Ar,K9,rfl,K9,fh (s8 L9 ⟨II,II,rfl⟩),fh hz⟩;exact gM
  by_cases hlp:x=7/\0<d
  ·obtain⟨a8,a9⟩:=hlp
   have af:((x:Int) == 6)=I:=by rw[a8];rfl
   have ag:((x:Int) == 7)=M:=by rw[a8];rfl
   have aa:(0:Int)<(d:Int):=K9;have a6:d-1<d:=K9;have a3:d-1<=2:=K9;have aw:Rg Z ((d:Int)-1)=(d:Int)-1:=iw;have ap:=Ii a9;have aq:=Bw (d-1);have a7:∀ q,q<=2->q*cb (d-1)<=2*cb (d-1):=fun q hq=>Tb _ hq;have an:=BC a3;have a0:∀{z:Int},z=0∨z=1∨z=2∨z=5->fE z:=fun h=>by rcases h with rfl | rfl | rfl | rfl <;> exact⟨qo,qo⟩
   go_upto_region 21 with(first
     | (go_at_call 36;(with_reducible refine(nS h1.cur 3 qo qo).mono ?_);rintro e W3 ⟨y,rfl,hy,a4,a5⟩;have h3:=h1.call a5 a4;have ax:Rg Z (1+(y:Int))=1+y:=iw)
     | (refine zJ (L:=n7+1) rfl (.tmp 117) (.tmp 129) ng (h3.fy gF).has ((tC (kd:=5) (nm:={ data:=#[] }) (o:=[⟨5,0,{ data:=#[] }⟩,⟨1,0,{ data:=#[105] }⟩,⟨0,(1+(y:Int)),{ data:=#[] }⟩]) ⟨qo,qo⟩ qo (Jh (k1:=5) (m1:=0) (s1:={ data:=#[] }) (k2:=1) (m2:=0) (s2:={ data:=#[105] }) (k3:=0) (m3:=(1+(y:Int))) (s3:={ data:=#[] }) (a0 qo) (a0 qo) qo (a0 qo) (a0 qo) qo (a0 qo) (by exact⟨K9,K9⟩) qo)).fy gF) (fun b hb hm=>by have k1:=h3.has.lt b hb;simp only[Rc] at hm;omega) rfl rfl rfl (by intro j u hu;simpa[go_sem] using hu) rfl K9 K9 ?_;intro B7 d7 W7 S7 hon7 hH7 hS7;have h5:=(h3.fy gF).next hon7 hH7 hS7 (fun b hb=>by simp only[Rc] at hb;have k2:=h3.only.size;omega) (by rw[Rh,<-h3.len];rfl)))
   have L5:=s8 HL.out (y:=⟨5,{ data:=#[] },[],[⟨5,0,{ data:=#[] }⟩,⟨1,0,{ data:=#[105] }⟩,⟨0,1+(y:Int),{ data:=#[] }⟩]⟩) ⟨II,II,rfl⟩
   go_upto_region 22 with(first
     | (go_at_call 156;(with_reducible refine(IH.out (d-1) a6 a3 1 K9 _ K9 _ K9 h5.cur (hB.only h5.only)).mono ?_);rintro e W8 ⟨B8,n8,d8,o8,S8,rfl,au,ab,h8⟩;have a2:=h5.call h8.only h8.cur;have am:=a7 1 K9)
     | (refine yV (L:=n7+1+n8) rfl (.tmp 131) (.tmp 135) ng a2.has h8.has (fun b hb hm=>by have k1:=h8.lo b hm;have k2:=h5.has.lt b hb;omega) rfl rfl rfl rfl K9 K9 ?_;intro B7 d7 W7 S7 hon7 hH7 hS7;have h9:=a2.next hon7 hH7 hS7 (fun b hb=>by have k1:=h8.lo b hb;have k2:=h5.only.size;omega) (by rw[Rh,<-a2.len,<-h8.len])))
   have L9:=Du L5 ab
   go_upto_region 23 with(first
     | (refine zJ (L:=n7+1+n8+1) rfl (.tmp 137) (.tmp 143) ng (h9.fy gF).has ((tC (kd:=1) (nm:={ data:=#[105] }) (o:=[⟨2,0,{ data:=#[] }⟩,⟨1,0,{ data:=#[105] }⟩,⟨0,1,{ data:=#[] }⟩]) ⟨qo,qo⟩ qo (Jh (k1:=2) (m1:=0) (s1:={ data:=#[] }) (k2:=1) (m2:=0) (s2:={ data:=#[105] }) (k3:=0) (m3:=1) (s3:={ data:=#[] }) (a0 qo) (a0 qo) qo (a0 qo) (a0 qo) qo (a0 qo) (by exact⟨K9,K9⟩) qo)).fy gF) (fun b hb hm=>by have k1:=h9.has.lt b hb;simp only[Rc] at hm;omega) rfl rfl rfl (by intro j u hu;simpa[go_sem] using hu) rfl K9 K9 ?_;intro B7 d7 W7 S7 hon7 hH7 hS7;have hy:=(h9.fy gF).next hon7 hH7 hS7 (fun b hb=>by simp only[Rc] at hb;have k2:=h9.only.size;omega) (by rw[Rh,<-h9.len];rfl)))
   have ak:=s8 L9 (y:=⟨1,{ data:=#[105] },[],[⟨2,0,{ data:=#[] }⟩,⟨1,0,{ data:=#[105] }⟩,⟨0,1,{ data:=#[] }⟩]⟩) ⟨II,II,rfl⟩
   go_wp2_with(first
     | (refine zJ (L:=n7+1+n8+1+1) rfl (.tmp 145) (.tmp 147) ng (Sy:=[]) (hy.fy gF).has (yd (kd:=7) ⟨qo,qo⟩) (fun b hb hm=>by cases hm) rfl rfl rfl (by intro j u hu;simpa[go_sem] using hu) rfl K9 K9 ?_;intro B7 d7 W7 S7 hon7 hH7 hS7;have hz:=(hy.fy gF).next hon7 hH7 hS7 (fun b hb=>by cases hb) (by rw[Rh,<-hy.len];rfl)))
   go_roundw;exact⟨r-1,_,B7,d7,_,S7,Ar,K9,rfl,K9,fh (s8 ak ⟨II,II,rfl⟩),fh hz⟩;exact gM
  by_cases hx66:x=6
  ·have aa:¬ ((0:Int)<(d:Int)):=K9
   have af:((x:Int) == 6)=M:=by rw[hx66];rfl
   have ag:((x:Int) == 7)=I:=by rw[hx66];rfl
   exact WZ
  have af:((x:Int) == 6)=I:=by simp;omega
  by_cases hx77:x=7
  ·have aa:¬ ((0:Int)<(d:Int)):=K9
   have ag:((x:Int) == 7)=M:=by rw[hx77];rfl
   exact WZ
  have ag:((x:Int) == 7)=I:=by simp;omega
  go_upto_if 24 with(go_at_call 103;(with_reducible refine(zhc h1.cur 3 qo qo).mono ?_);rintro e W5 ⟨b,rfl,hC5,hS5⟩)
  have h5:=h1.call hS5 hC5;cases b with
  | false=>
   go_wp2_with(fail);go_roundw;exact⟨r-1,n7,A7,c7,out,S,Ar,K9,rfl,K9,HL,fh h5⟩;exact gM
  | true=>
   go_wp2_with(first
     | (go_at_call 157;(with_reducible refine(zej (n:=4) (m:=4) qo qo h5.cur (hB.only h5.only)).mono ?_);rintro e W6 ⟨B6,d6,o6,S6,rfl,hl6,hC6,hS6,hH6,hlo6⟩;have h6:=h5.call hS6 hC6)
     | (refine zJ (L:=n7+1) rfl (.tmp 25) (.tmp 29) ng (h6.fy gF).has ((tC (kd:=6) (nm:={ data:=#[] }) ⟨qo,qo⟩ qo hH6).fy gF) (fun b hb hm=>by have k1:=hlo6 b hm;have k2:=h5.has.lt b hb;omega) rfl rfl rfl (by intro j u hu;simpa[go_sem] using hu) rfl K9 K9 ?_;intro B7 d7 W7 S7 hon7 hH7 hS7;have h7:=(h6.fy gF).next hon7 hH7 hS7 (fun b hb=>by have k1:=hlo6 b hb;have k2:=h5.only.size;omega) (by rw[Rh,<-h6.len];rfl)))
   exact WL
 ·obtain rfl:r=0:=K9
  have ac:¬ ((0:Int)<((0:Nat):Int)):=K9;go_wp2_with(fail);go_ret;exact⟨A7,n7,c7,out,S,rfl,K9,HL.out,h1⟩
theorem MS {α:Type} {xs:Q α} {f:α->Bool} {x:α} (h:xs[j]?=D x)(ha:(xs.take j).all f=M)(hf:f x=M):(xs.take (j+1)).all f=M:=by
 rw[wD h,Um,ha];simp[hf]
theorem LS {α:Type} {xs:Q α} {f:α->Bool} {x:α} (h:xs[j]?=D x)(hf:f x=I):xs.all f=I:=by
 rw[List.all_eq_false];exact⟨x,Rt h,by simp[hf]⟩
def mi (n:Int):Int:=if fP n (-549755813888) 549755813887 then (if n<0 then -2*n-1 else 2*n) else -1
theorem Ej (n:Int):decide (mi n<0) = !fP n (-549755813888) 549755813887:=by
 unfold mi;cases h:fP n (-549755813888) 549755813887
 ·simp
 ·rw[Rs rfl];split <;> simp <;> omega
theorem vy {g:Prop} (f:g:=by
  go_enter func90,ntmps90
  go_wp2_with(first
   | (go_at_call 43;(with_reducible refine(gW _ _ _ _).mono ?_);rintro e w1 ⟨rfl,rfl⟩))
  go_ret
  exact⟨nV HT.out.symm,rfl⟩):g:=f
theorem CH (n:Int)(w:U):RD prog 90 #[J Z n] w fun e w'=>e=.returned (J Z (mi n))/\w=w':=by
 cases hb:fP n (-549755813888) 549755813887
 ·have HS:=fh (show mi n = -1 from by simp[mi,hb])
  go_enter func90,ntmps90
  go_wp2_with(first
   | (go_at_call 43;(with_reducible refine(gW _ _ _ _).mono ?_);rintro e w1 ⟨rfl,rfl⟩))
  go_ret;exact⟨nV HS.out.symm,rfl⟩
 ·obtain⟨a0,a1⟩:=zu.1 hb
  have HS:=fh (show mi n=(if n<0 then -2*n-1 else 2*n) from by simp[mi,hb]);by_cases hn:n<0
  ·have HT:=fh (HS.out.trans (Rs hn))
   exact vy
  ·have HT:=fh (HS.out.trans (Ro hn))
   exact vy
theorem OG (k:Nat):∀ n,n<128 ^ (k+1)->(qW n).length<=k+1:=by
 induction k with
 | zero=>intro n h;rw[DE (by simpa using h)];simp
 | succ k ih=>
  intro n h;by_cases hn:n<128
  ·rw[DE hn];simp
  ·rw[IA K9,RA]
   have:=ih (n / 128) (by rw[Nat.pow_succ] at h;omega);omega
theorem pE (n:Int):(jy n).size<=6:=by
 unfold jy;split
 ·rename_i h
  obtain⟨h1,h2⟩:=zu.1 h;have:=OG 5 n.toNat K9;show (qW n.toNat).toArray.size<=6;simpa using this
 ·show (#[]:Array UInt8).size<=6
  simp
theorem Og {a:Nat}:∀(f k n:Nat)(m z:Nat),pQ L a f k n=(m,z,M)->k<z/\z<=k+f/\a+z<=L.length/\m<=1099511627775:=by
 intro f;induction f with
 | zero=>intro k n m z h;simp[pQ] at h
 | succ f ih=>
  intro k n m z h;cases hx:L[a+k]? with
  | none=>rw[Xw hx] at h;simp at h
  | some b=>
   have a0:=(Rd.1 hx).1;rw[Cn hx] at h;split at h
   ·split at h
    ·rename_i he
     simp only[Tp,Ud] at h;obtain⟨h1,rfl⟩:=h;refine⟨K9,K9,K9,?_⟩;rw[h1] at he;by_cases hm:m<=1099511627775
     ·exact hm
     ·exfalso
      have e0:(jy (m:Int)).data.toList = []:=by
       unfold jy;rw[Ro (by simp[zu];omega)]
      rw[e0] at he;have:((L.drop a).take (k+1)).length=0:=by rw[<-he];rfl
      rw[SX,Tt] at this;omega
    ·simp at h
   ·have:=ih _ _ _ _ h
    omega
theorem qJ {n:Nat} (h:iD s a=(n,z,M)):0<=a/\1<=z/\z<=6/\a+z<=s.size/\n<=1099511627775:=by
 unfold iD at h;split at h
 ·rename_i h0
  have h1:=Og _ _ _ _ _ h;have h2:s.data.toList.length=s.size:=by rw[Sk];rfl
  omega
 ·simp at h
theorem AV (n:Nat)(h:n<=4611686018427387903):bits .and Z (n:Int) 1=(n:Int) % 2:=bits_mask Z 62 qo AD 1 qo _ K9 K9
def signed (n:Nat):Int:=if fP (n:Int) 0 1099511627775 then (if n % 2=1 then -((n:Int)+1) / 2 else (n:Int) / 2) else 0
theorem yw (n:Nat) : -1099511627776<=signed n/\signed n<=1099511627776:=by
 unfold signed;split
 ·rename_i h
  have:=zu.1 h;split <;> omega
 ·omega
theorem OD (n q:Nat)(hn:n<=4398046511104)(h:n+1=2*q):SN (-((n:Int)+1).tdiv 2) = -((n:Int)+1) / 2:=by
 have:(n:Int)+1=2*(q:Int):=by exact_mod_cast h
 rw[this,Int.mul_tdiv_cancel_left _ qo,qC K9 K9];omega
def qx (s:N):N:=jy s.size++s
def jH (s:N)(a:Int):N × Nat × Bool:=
 if (iD s a).2.2 && decide ((iD s a).1<=s.size-a.toNat-(iD s a).2.1) then (s.extract (a.toNat+(iD s a).2.1) (a.toNat+(iD s a).2.1+(iD s a).1),(iD s a).2.1+(iD s a).1,M) else (⟨#[]⟩,0,I)
def Ir (p:N × Nat × Bool)(w:U)(e:Ending)(w':U):Prop:=e=.returned (.tuple #[V p.1,J Z p.2.1,H p.2.2])/\fu w w'
theorem Dj {p q:N × Nat × Bool} (h:p=q){w w':U}(hG:fu w w'):Ir p w (.returned (.tuple #[V q.1,J Z q.2.1,H q.2.2])) w':=by
 subst h;exact⟨rfl,hG⟩
theorem zqc (n:Nat)(hn:n<=4398046511104)(w:U):RD prog 163 #[J Z (n:Int)] w fun e w'=>e=.returned (J Z (signed n))/\w=w':=by
 cases hb:fP (n:Int) 0 1099511627775
 ·have HS:=fh (show signed n=0 from by simp[signed,hb])
  have HB:=fh hb;clear hb;go_enter func163,ntmps163;go_wp2_with(go_at_call 43;(with_reducible refine(gW _ _ _ _).mono ?_);rw[HB.out];rintro e w1 ⟨rfl,rfl⟩);go_ret;exact⟨nV HS.out.symm,rfl⟩
 ·obtain⟨a0,a1⟩:=zu.1 hb
  have HB:=fh hb;by_cases h2:n % 2=1
  ·have HS:=fh (show signed n = -((n:Int)+1) / 2 from by simp[signed,hb,h2])
   obtain⟨q,hq⟩:∃ q:Nat,n+1=2*q:=⟨(n+1) / 2,K9⟩
   clear hb;have e1:bits .and Z (n:Int) 1=1:=by rw[AV n K9];omega
   go_enter func163,ntmps163;go_wp2_with(go_at_call 43;(with_reducible refine(gW _ _ _ _).mono ?_);rw[HB.out];rintro e w1 ⟨rfl,rfl⟩);go_ret;exact⟨nV (by rw[HS.out];first | rfl | (exact OD n q hn hq)),rfl⟩
  ·have HS:=fh (show signed n=(n:Int) / 2 from by simp[signed,hb,h2])
   clear hb;have e1:bits .and Z (n:Int) 1=0:=by rw[AV n K9];omega
   go_enter func163,ntmps163;go_wp2_with(go_at_call 43;(with_reducible refine(gW _ _ _ _).mono ?_);rw[HB.out];rintro e w1 ⟨rfl,rfl⟩);go_ret;exact⟨nV (by rw[HS.out]),rfl⟩
theorem ziZ (s:N)(w:U)(hs:s.size<=1099511627775):RD prog 118 #[V s] w fun e w'=>e=.returned (V (qx s))/\fu w w':=by
 have hz:(jy s.size).size+s.size<=9223372036854775807:=by have:=pE s.size;omega
 go_enter func118,ntmps118;go_wp2_with(go_at_call 117;(with_reducible refine(zfH _ _).mono ?_);rintro e w1 ⟨rfl,os,d,rfl⟩);go_ret;exact⟨rfl,gG⟩
theorem zfP (s:N)(a:Int)(w:U)(hs:s.size<=1099511627776)(ha:fE a):RD prog 109 #[V s,J Z a] w (Ir (jH s a) w):=by
 obtain⟨n,z,ok,hp⟩:∃ n z ok,iD s a=(n,z,ok):=⟨_,_,_,rfl⟩
 have HP:=fh hp;cases ok
 ·have HQ:=fh (show jH s a=(⟨#[]⟩,0,I) from by simp[jH,hp])
  clear hp;go_enter func109,ntmps109;go_wp2_with(go_at_call 108;(with_reducible refine(zdz _ _ _ hs ha).mono ?_);rw[HP.out];rintro e w1 ⟨rfl,os,d,rfl⟩);go_ret3;exact Dj HQ.out gG
 ·obtain⟨h1,h2,h3,h4,h5⟩:=qJ hp
  obtain⟨a,rfl⟩:=RE h1;by_cases hf:n<=s.size-a-z
  ·have HQ:=fh (show jH s a=(s.extract (a+z) (a+z+n),z+n,M) from by simp[jH,hp,hf])
   clear hp;have a0:(n:Int)<=(s.size:Int)-a-z:=K9;go_enter func109,ntmps109;go_wp2_with(go_at_call 108;(with_reducible refine(zdz _ _ _ hs ha).mono ?_);rw[HP.out];rintro e w1 ⟨rfl,os,d,rfl⟩);go_ret3;exact Dj (q:=(s.extract (a+z) (a+z+n),z+n,M)) HQ.out gG
  ·have HQ:=fh (show jH s a=(⟨#[]⟩,0,I) from by simp[jH,hp,hf])
   clear hp;have a0:¬ (n:Int)<=(s.size:Int)-a-z:=K9;go_enter func109,ntmps109;go_wp2_with(go_at_call 108;(with_reducible refine(zdz _ _ _ hs ha).mono ?_);rw[HP.out];rintro e w1 ⟨rfl,os,d,rfl⟩);go_ret3;exact Dj (q:=(⟨#[]⟩,0,I)) HQ.out gG
theorem Lh {α:Type} {xs:Q α} {f:α->Bool} {x:α} (h:xs[j]?=D x)(hf:f x=I):xs.all f=I:=LS h hf
def wN (n:Int):Bool:=fP n (-549755813888) 549755813887
theorem Mg {n:Int} (h:wN n=M):0<=mi n/\mi n<=1099511627775:=by
 unfold wN at h;obtain⟨h1,h2⟩:=zu.1 h;unfold mi;rw[h,Rs rfl];split <;> omega
def rO (l:Q Int):Q UInt8:=(l.map fun n=>(jy (mi n)).data.toList).flatten
theorem LQ {x:Int} (h:l[j]?=D x):rO (l.take (j+1))=rO (l.take j)++(jy (mi x)).data.toList:=by
 unfold rO;rw[wD h,Un,List.flatten_append];simp
theorem Nq (l:Q Int)(j:Nat):(rO (l.take j)).length<=6*j:=by
 have h:∀ l:Q Int,(rO l).length<=6*l.length:=by
  intro l;induction l with
  | nil=>simp[rO]
  | cons x xs ih=>
   have h1:=pE (mi x);have h2:(jy (mi x)).data.toList.length=(jy (mi x)).size:=by rw[Sk];rfl
   have h3:rO (x::xs)=(jy (mi x)).data.toList++rO xs:=rfl;rw[h3,Rh,RA];omega
 have:=h (l.take j);have h2:=List.length_take_le j l;omega
def og (l:Q Int):N:=if l.all wN then ⟨((jy l.length).data.toList++rO l).toArray⟩ else ⟨#[]⟩
theorem Gr (n:Int):(jy n).data.toList.length<=6:=by rw[Sk];exact pE n
theorem DN (s:N):s.data.toList.length=s.size:=by rw[Sk];rfl
theorem Jf (s:N):(⟨s.data.toList.toArray⟩:N)=s:=II
theorem IT (l:Q UInt8):(⟨l.toArray⟩:N).size=l.length:=by
 show l.toArray.size=_;simp
theorem zkE {w:U} {A:X RJ} {c:Nat} (hx:(zr.sl 3).R w w.heap.size [G A l.length c] l)(hl:l.length<=1099511627775):RD prog 119 #[G A l.length c] w fun e w'=>e=.returned (V (og l))/\fu w w':=by
 obtain⟨_,_,hv,h2,h3⟩:=kJ hx;injection hv with hA _ hc
 subst hA hc;go_enter func119,ntmps119;go_wp2_with(first | (go_at_call 117;(with_reducible refine(zfH _ _).mono ?_);rintro e w1 ⟨rfl,a2,d1,rfl⟩) | (go_at_call 90;(with_reducible refine(CH _ _).mono ?_);rintro e w1 ⟨rfl,rfl⟩));go_loopw [3,4] (fun a i wr=>∃(j:Nat) (a0:Q UInt8),j<=l.length/\a=V ⟨a0.toArray⟩/\i=J Z j/\a0.length<=6+6*j/\Hid (a0=(jy l.length).data.toList++rO (l.take j))/\Hid ((l.take j).all wN=M)/\Hid (fu w wr)) (fun _ i _=>l.length-(RS i).toNat)
 case atStart=>exact⟨0,(jy l.length).data.toList,Rl _,Iz (Jf _).symm,rfl,by have:=Gr l.length;omega,fh (by simp[rO]),fh II,fh gG⟩
 case round=>
  obtain⟨j,a0,hj,rfl,rfl,a3,HT,HO,hG⟩:=hrel;obtain⟨os,d,rfl⟩:=hG.out;clear hG;by_cases hlt:j<l.length
  ·obtain⟨g,aa,x,rfl,a1,a4,a8,a9⟩:=lJ hx hlt
   have a5:=R7 _ _ a4;simp only at a5;have HX:=fh a1;have a7:=fh hx;clear a1 hx;cases hb:wN x
   ·have HF:=fh (show og l=⟨#[]⟩ from by unfold og;rw[Lh HX.out hb];rfl)
    have b6:decide (mi x<0)=M:=by rw[Ej];unfold wN at hb;rw[hb];rfl
    clear hb;go_wp2_with(first | (go_at_call 117;(with_reducible refine(zfH _ _).mono ?_);rintro e w1 ⟨rfl,a2,d1,rfl⟩) | (go_at_call 90;(with_reducible refine(CH _ _).mono ?_);rintro e w1 ⟨rfl,rfl⟩));go_ret;exact⟨mP HF.out.symm,gG⟩
   ·have HB:=fh hb
    have b6:decide (mi x<0)=I:=by rw[Ej];unfold wN at hb;rw[hb];rfl
    have b7:=Mg hb;clear hb;have b8:=pE (mi x);have hz:(⟨a0.toArray⟩:N).size+(jy (mi x)).size<=9223372036854775807:=by rw[IT];omega
    go_wp2_with(first | (go_at_call 117;(with_reducible refine(zfH _ _).mono ?_);rintro e w1 ⟨rfl,a2,d1,rfl⟩) | (go_at_call 90;(with_reducible refine(CH _ _).mono ?_);rintro e w1 ⟨rfl,rfl⟩));go_roundw;exact⟨j+1,a0++(jy (mi x)).data.toList,K9,Iz (by rw[<-M1,Jf]),Ar,by{ rw[Rh];have:=Gr (mi x);omega },fh (by rw[LQ HX.out,HT.out,RU]),fh (MS HX.out HO.out HB.out),fh gG⟩;exact gM
  ·have a6:j=l.length:=K9
   subst a6
   have HF:=fh (show og l=⟨a0.toArray⟩ from by
    have h:=HO.out;have h2:=HT.out;rw[SC] at h h2
    unfold og;rw[h,Rs rfl,h2])
   go_wp2;go_ret;exact⟨mP HF.out.symm,gG⟩
def pN (s:N)(a:Int):Nat->Nat->Q Int->X (Q Int × Nat)
 | 0,z,acc=>D (acc,z)
 | c+1,z,acc=>if (iD s (a+z)).2.2 then pN s a c (z+(iD s (a+z)).2.1) (acc++[signed (iD s (a+z)).1]) else C
def yL:X (Q Int × Nat)->Q Int × Nat × Bool
 | some (l,n)=>(l,n,M)
 | none=>([],0,I)
def iR (s:N)(a:Int):Q Int × Nat × Bool:=if (iD s a).2.2 then yL (pN s a (iD s a).1 (iD s a).2.1 []) else ([],0,I)
theorem ME (h:iD s (a+q)=(m,t,I)):pN s a (f+1) q acc=C:=by
 simp[pN,h]
theorem O4 (h:iD s (a+q)=(m,t,M)):pN s a (f+1) q acc=pN s a f (q+t) (acc++[signed m]):=by
 simp[pN,h]
theorem LY {a:Nat}:∀(f k n:Nat)(m z:Nat),pQ L a f k n=(m,z,I)->m=0/\z=0:=by
 intro f;induction f with
 | zero=>intro k n m z h;simp[pQ] at h;omega
 | succ f ih=>
  intro k n m z h;cases hx:L[a+k]? with
  | none=>rw[Xw hx] at h;simp at h;omega
  | some b=>
   rw[Cn hx] at h;split at h
   ·split at h
    ·simp at h
    ·simp at h;omega
   ·exact ih _ _ _ _ h
theorem tP (h:iD s a=(m,z,I)):m=0/\z=0:=by
 unfold iD at h;split at h
 ·exact LY _ _ _ _ _ h
 ·simp at h;omega
def I6 (p:Q Int × Nat × Bool)(w:U)(e:Ending)(w':U):Prop:=∃ A c,e=.returned (.tuple #[G A p.1.length c,J Z p.2.1,H p.2.2])/\fU (zr.sl 3) w w' [G A p.1.length c] p.1/\fu w w'
theorem DC {p q:Q Int × Nat × Bool} (h:p=q){w w':U}{A:X RJ}{c:Nat}(hF:fU (zr.sl 3) w w' [G A q.1.length c] q.1)(hG:fu w w'):I6 p w (.returned (.tuple #[G A q.1.length c,J Z q.2.1,H q.2.2])) w':=by
 subst h;exact⟨A,c,rfl,hF,hG⟩
theorem zdm (s:N)(a:Int)(w:U)(hs:s.size<=1099511627776)(ha:fE a):RD prog 110 #[V s,J Z a] w (I6 (iR s a) w):=by
 obtain⟨n,z,ok,hp⟩:∃ n z ok,iD s a=(n,z,ok):=⟨_,_,_,rfl⟩
 have HP:=fh hp;cases ok
 ·have HQ:=fh (show iR s a=([],0,I) from by simp[iR,hp])
  obtain⟨rfl,rfl⟩:=tP hp;clear hp;go_enter func110,ntmps110;go_wp2_with(go_at_call 108;(with_reducible refine(zdz _ _ _ hs ha).mono ?_);rw[HP.out];rintro e w1 ⟨rfl,a4,d1,rfl⟩);go_loop [9,11] (fun x y=>x=H I/\y=J Z 0) (fun _ _=>0)
  case atStart=>exact⟨rfl,rfl⟩
  case round=>
   obtain⟨rfl,rfl⟩:=hrel;go_wp2;go_ret3;exact DC HQ.out (Eo (W0:=w) gG gG II) gG
 ·obtain⟨h1,h2,h3,h4,h5⟩:=qJ hp
  obtain⟨a,rfl⟩:=RE h1;have HS:=fh (show iR s a=yL (pN s a n z []) from by simp[iR,hp]);clear hp;go_enter func110,ntmps110;go_wp2_with(go_at_call 108;(with_reducible refine(zdz _ _ _ hs ha).mono ?_);rw[HP.out];rintro e w1 ⟨rfl,a4,d1,rfl⟩);go_loopw [8,9,10,11] (fun y k x b wr=>∃(j q:Nat) (acc:Q Int) (A:X RJ) (c:Nat) (ok:Bool),k=H ok/\b=J Z j/\x=G A acc.length c/\y=J Z q/\j<=n/\acc.length<=q+1/\a+q<=s.size/\Hid (ok=I->iR s a=([],0,I))/\Hid (ok=M->acc.length<=q)/\Hid (ok=M->pN s a (n-j) q acc=pN s a n z [])/\Hid (fu w wr)/\Hid (fU (zr.sl 3) w wr [G A acc.length c] acc)) (fun _ _ _ b _=>n-(RS b).toNat)
  case atStart=>exact⟨0,z,[],_,0,M,rfl,rfl,rfl,rfl,K9,II,K9,fh (fun h=>by cases h),fh (fun _=>II),fh (fun _=>rfl),fh gG,fh (wj gG II)⟩
  case round=>
   obtain⟨j,q,acc,A,c,ok,rfl,rfl,rfl,rfl,hj,hq,a9,a1,HL,a2,hG,hF⟩:=hrel;obtain⟨os,d,rfl⟩:=hG.out;clear hG;cases ok
   ·have HQ:=fh (a1.out rfl)
    clear a1 a2 HL;by_cases hlt:j<n
    all_goals
     go_wp2
     go_ret3
     exact DC HQ.out (Eo (W0:=w) gG gG II) gG
   ·have HT:=fh (a2.out rfl)
    have aa:=HL.out rfl;clear a1 a2 HL;by_cases hlt:j<n
    ·obtain⟨f,hf⟩:∃ f,n-j=f+1:=⟨n-j-1,K9⟩
     have a5:=fh hf;have a6:=fh (show n-(j+1)=f from K9);clear hf;obtain⟨m,t,ok,hm⟩:∃ m t ok,iD s ((a:Int)+q)=(m,t,ok):=⟨_,_,_,rfl⟩
     have HM:=fh hm;have a0:fE ((a:Int)+q):=⟨K9,K9⟩
     cases ok
     ·have HQ:=fh (show iR s a=([],0,I) from by rw[HS.out,<-HT.out,a5.out,ME hm];rfl)
      have ab:m<=0:=by have:=(tP hm).1;omega
      have ac:t<=0:=by have:=(tP hm).2;omega
      clear hm;go_wp2_with(first | (at_builtin;go_must (refine xS (W0:=w) (L:=acc.length+1) rfl (.tmp 44) (.tmp 47) lN zE (hF.out.fy gG).mW gG (W1:=w) (B:=0) (ec:=[J Z (signed m)]) (y:=signed m) ⟨rfl,by have:=yw m;omega,by have:=yw m;omega⟩ rfl rfl rfl (by intro j u hu;simpa[go_sem] using hu) rfl K9 K9 ?_);intro A2 c2 a8 d2 a3) | (go_at_call 108;(with_reducible refine(zdz _ _ _ hs a0).mono ?_);rw[HM.out];rintro e w1 ⟨rfl,a4,d1,rfl⟩) | (go_at_call 163;(with_reducible refine(zqc m K9 _).mono ?_);rintro e w1 ⟨rfl,rfl⟩));go_roundw;exact⟨j+1,q+t,acc++[signed m],A2,c2,I,rfl,Ar,II,Ar,K9,by simp;omega,K9,fh (fun _=>HQ.out),fh (fun h=>by cases h),fh (fun h=>by cases h),fh gG,fh (by simpa using a3)⟩;exact gM
     ·obtain⟨g1,g2,g3,g4,g5⟩:=qJ hm
      have HN:=fh (O4 (f:=f) (acc:=acc) hm);clear hm;go_wp2_with(first | (at_builtin;go_must (refine xS (W0:=w) (L:=acc.length+1) rfl (.tmp 44) (.tmp 47) lN zE (hF.out.fy gG).mW gG (W1:=w) (B:=0) (ec:=[J Z (signed m)]) (y:=signed m) ⟨rfl,by have:=yw m;omega,by have:=yw m;omega⟩ rfl rfl rfl (by intro j u hu;simpa[go_sem] using hu) rfl K9 K9 ?_);intro A2 c2 a8 d2 a3) | (go_at_call 108;(with_reducible refine(zdz _ _ _ hs a0).mono ?_);rw[HM.out];rintro e w1 ⟨rfl,a4,d1,rfl⟩) | (go_at_call 163;(with_reducible refine(zqc m K9 _).mono ?_);rintro e w1 ⟨rfl,rfl⟩));go_roundw;exact⟨j+1,q+t,acc++[signed m],A2,c2,M,rfl,Ar,II,Ar,K9,by simp;omega,K9,fh (fun h=>by cases h),fh (fun _=>by simp;omega),fh (fun _=>by rw[<-HT.out,a5.out,a6.out,HN.out]),fh gG,fh (by simpa using a3)⟩;exact gM
    ·have a7:j=n:=K9
     subst a7;have HQ:=fh (show iR s a=(acc,q,M) from by rw[HS.out,<-HT.out,St];rfl);go_wp2;go_ret3;exact DC (q:=(acc,q,M)) HQ.out hF.out gG
def mr:Q fM->Int->Q Int
 | [],a=>[a]
 | x::r,a=>a::mr r (a+zS x.Op.Code)
def mN (gP:Q Int)(k:Nat)(x:fM):fK:=
 ⟨gP.getD k 0,if x.Op.Code=10∨x.Op.Code=11 then { x with Op:=⟨x.Op.Code,gP.getD x.Op.Wv.toNat 0-gP.getD (k+1) 0⟩ } else x⟩
def rm (gP:Q Int):Q fM->Nat->Q fK
 | [],_=>[]
 | x::r,k=>mN gP k x::rm gP r (k+1)
def mw:Q fM->Int->Int
 | [],a=>a
 | x::r,a=>mw r (a+zS x.Op.Code)
def lQ (pi:Q fM)(a:Int):Q fK:=rm (mr pi a) pi 0
def ny (b:fY)(f image:Int):Bool:=if b.NE=M then decide (f % 2=image) else decide (image=0)
def mX (p:Q fw)(b:fY)(image:Int):Nat->Nat->Int->Q fK
 | 0,_,_=>[]
 | n+1,f,a=>if ny b f image=M then lQ (ki p b f) a++mX p b image n (f+1) (mw (ki p b f) a) else mX p b image n (f+1) a
def jZ (p:Q fw)(b:fY)(image:Int):Q fK:=
 if zx p=M/\jP b=M/\fP image 0 1=M then mX p b image (zq p).length 0 0 else []
def kA (x:me):Bool:=fP x.Code 0 17 && (if (iy x.Code).2=M then fP x.Wv (-(2 ^ (8*(iy x.Code).1-1))) (2 ^ (8*(iy x.Code).1-1)-1) else fP x.Wv 0 (2 ^ (8*(iy x.Code).1)-1))
def pP (n:Int):UInt8:=Tr (n % 256).toNat
def qm (a:Int):Nat->Nat->Q UInt8
 | 0,_=>[]
 | n+1,k=>pP (a / 2 ^ (8*k))::qm a n (k+1)
def jR (x:me):N:=if kA x=M then ⟨(pP x.Code::qm x.Wv (iy x.Code).1 0).toArray⟩ else Wy
def mj (p:Q fw)(k:Int):N:=((p[k.toNat]?).map fw.pu).getD Wy
def qp (WB:Q fC)(n:Int):Q fC:=match WB.getLast? with
 | none=>WB
 | some x=>WB.dropLast++[{ x with gH:=n-x.kw }]
def nc (p:Q fw)(i:gv)(x:fK):gv:=
 let WB:=if x.lw.Op.Code=13∨x.lw.Op.Code=15/\kP p x.lw.fG=0 then i.fm++[⟨mj p x.lw.fG,x.us,0⟩] else i.fm
 let code:=i.Code++jR x.lw.Op
 ⟨code,qp WB code.size⟩
def jz (p:Q fw)(b:fY)(image:Int):gv:=(jZ p b image).foldl (nc p) ⟨Wy,[]⟩
def qj (out:Q gK)(x:fK):Q gK:=
 let r:gK:=⟨x.us,x.us+zS x.lw.Op.Code,x.lw.fD,x.lw.fF⟩
 match out.getLast? with
 | none=>out++[r]
 | some q=>if q.PP=r.kw/\q.Frame=r.Frame/\q.fF=r.fF then out.dropLast++[{ q with PP:=r.PP }] else out++[r]
def qu (l:Q fK):Bool:=l.all fun x=>fP x.us 0 1000000
def oX (l:Q fK):Q gK:=if qu l=M then l.foldl qj [] else []
def ry:X fM->Q fK->Q iu
 | _,[]=>[]
 | q,x::r=>(match q with
  | some y=>if x.lw.kw=I/\y.kw=I/\y.fG=x.lw.fG then [] else [⟨x.us,x.lw.fG,x.lw.kw⟩]
  | none=>[⟨x.us,x.lw.fG,x.lw.kw⟩])++ry (D x.lw) r
def sK (l:Q fK):Q iu:=ry C l
def wu:Q fw->Nat->N->N
 | [],_,s=>s
 | _,0,s=>s
 | x::r,n+1,s=>wu r n (if x.li=0 then x.pu else s)
def pB (p:Q fw)(k:Int):N:=if 0<=k/\k<p.length then wu p (k.toNat+1) Wy else Wy
def kR (p:Q fw)(x:fM)(level:Nat):N:=if level+1<x.fB.length then pB p (x.fB.getD (level+1) 0) else pB p x.fG
def pJ (p:Q fw)(level:Nat)(io:Q Int)(name:N)(y:fK):Bool:=
 decide (level<y.lw.fB.length) && (decide (y.lw.fB.take (level+1)=io.take (level+1)) && decide (kR p y.lw level=name))
def nX (p:Q fw)(level:Nat):Nat->Q fK->Q fQ
 | 0,_=>[]
 | _+1,[]=>[]
 | n+1,x::r=>if level<x.lw.fB.length then
   let run:=r.takeWhile (pJ p level x.lw.fB (kR p x.lw level))
   let last:=(x::run).getLast (by simp)
   ⟨x.us,last.us+zS last.lw.Op.Code,level,x.lw.fB.getD level 0,kR p x.lw level⟩::nX p level n (r.drop run.length)
  else nX p level n r
def tB (l:Q fK):Nat:=l.foldl (fun n x=>max n x.lw.fB.length) 0
def mh (p:Q fw)(l:Q fK):Q fQ:=
 if zx p=M/\qu l=M then (List.range (tB l)).flatMap fun level=>nX p level l.length l else []
def oT (p:Q fw)(b:fY)(image:Int):gE:=
 if zx p=M/\jP b=M/\fP image 0 1=M then
  ⟨mJ (jz p b image).Code (jz p b image).Code.size,(jz p b image).fm,oX (jZ p b image),sK (jZ p b image),mh p (jZ p b image)⟩
 else ⟨0,[],[],[],[]⟩
end Go.Proofs.YthgbglbaemelhaaGreat
