/-
  PART.
-/
import Derived.Test.YthgbglbaemelhaaGreatM39LawSlices
import Derived.Test.YthgbglbaemelhaaGreatM48LawSlices
set_option linter.unusedVariables false
set_option linter.unusedSimpArgs false
set_option maxRecDepth 100000
set_option maxHeartbeats 8000000
namespace Go.Proofs.YthgbglbaemelhaaGreat
open Value renaming slice->G,int->J,bool->H
open IntKind renaming i64->C,wrap->QP
open Option renaming none->D,some->Z
open Obj renaming cells->F
open Bool renaming true->M,false->I
open Go renaming World->U,results->Rd,Calls->Rh,Addr->Ri,yielded->Su
open World renaming cell?->QL,setCell->RQ,alloc->RR
open Region renaming wanted->Rx,ready->RL,noSelect->Tn,Mode->Ts,free->Ui
open Tryz
open Go.RowKit
theorem K6:Static prog 35:=⟨_,func35,rfl,by decide⟩
def Pr (w:U)(e:Ending)(W':U):Prop:=∃(p:Q fv)(b:fV)(b0 b1:Int)(x y:Nat)(A:X Ri)(c:Nat)(B0:X Ri)(d0:Nat)(B1:X Ri)(d1:Nat)(B2:X Ri)(d2:Nat)(B3:X Ri)(d3:Nat)(C0:X Ri)(f0:Nat)(C1:X Ri)(f1:Nat)(C2:X Ri)(f2:Nat)(C3:X Ri)(f3:Nat),
 e=.returned (.tuple #[G A p.length c,.agg #[G B0 (zX p b (zn p b b0 b1)).1.fo.fq.length d0,G B1 (zX p b (zn p b b0 b1)).1.fo.fu.length d1,G B2 (zX p b (zn p b b0 b1)).1.fo.Entries.length d2,G B3 (zX p b (zn p b b0 b1)).1.fX.length d3],.agg #[G C0 (zx (zn p b b0 b1) (1+(x:Int)) (1+(y:Int))).1.fo.fq.length f0,G C1 (zx (zn p b b0 b1) (1+(x:Int)) (1+(y:Int))).1.fo.fu.length f1,G C2 (zx (zn p b b0 b1) (1+(x:Int)) (1+(y:Int))).1.fo.Entries.length f2,G C3 (zx (zn p b b0 b1) (1+(x:Int)) (1+(y:Int))).1.fk.length f3,J C (zx (zn p b b0 b1) (1+(x:Int)) (1+(y:Int))).1.fO,J C (zx (zn p b b0 b1) (1+(x:Int)) (1+(y:Int))).1.Left,J C (zx (zn p b b0 b1) (1+(x:Int)) (1+(y:Int))).1.Slice]])/\iz p/\jM b=M/\(1<=b0/\b0<=9000)/\(20000<=b1/\b1<=1000000)/\(x:Int)<3/\(y:Int)<12/\(zJ.sl 99).R W' W'.heap.size [G A p.length c] p/\oS.R W' W'.heap.size [G B0 (zX p b (zn p b b0 b1)).1.fo.fq.length d0,G B1 (zX p b (zn p b b0 b1)).1.fo.fu.length d1,G B2 (zX p b (zn p b b0 b1)).1.fo.Entries.length d2,G B3 (zX p b (zn p b b0 b1)).1.fX.length d3] (zX p b (zn p b b0 b1)).1/\mS.R W' W'.heap.size [G C0 (zx (zn p b b0 b1) (1+(x:Int)) (1+(y:Int))).1.fo.fq.length f0,G C1 (zx (zn p b b0 b1) (1+(x:Int)) (1+(y:Int))).1.fo.fu.length f1,G C2 (zx (zn p b b0 b1) (1+(x:Int)) (1+(y:Int))).1.fo.Entries.length f2,G C3 (zx (zn p b b0 b1) (1+(x:Int)) (1+(y:Int))).1.fk.length f3,J C (zx (zn p b b0 b1) (1+(x:Int)) (1+(y:Int))).1.fO,J C (zx (zn p b b0 b1) (1+(x:Int)) (1+(y:Int))).1.Left,J C (zx (zn p b b0 b1) (1+(x:Int)) (1+(y:Int))).1.Slice] (zx (zn p b b0 b1) (1+(x:Int)) (1+(y:Int))).1/\ft w W'
theorem ztc {w:U}{A:X Ri}{n c:Nat}{xs:Q UInt8}(hx:(mX.sl 5).R w w.heap.size [G A n c] xs)(hl:xs.length<=1099511627776):Rh prog 8 #[G A n c] w (Pr w):=by
 have aa:=fh (zj (QO w (F #[G D 0 0,G D 0 0,G D 0 0,G D 0 0] 31)) (show ft _ ((w.alloc (F #[G D 0 0,G D 0 0,G D 0 0,G D 0 0] 31)).alloc (F #[G D 0 0,G D 0 0,G D 0 0,G D 0 0,J C 0,J C 0,J C 0] 34)) from gG));have a8:Hid (((w.alloc (F #[G D 0 0,G D 0 0,G D 0 0,G D 0 0] 31)).alloc (F #[G D 0 0,G D 0 0,G D 0 0,G D 0 0,J C 0,J C 0,J C 0] 34)).heap[w.heap.size+1]?=Z (F #[G D 0 0,G D 0 0,G D 0 0,G D 0 0,J C 0,J C 0,J C 0] 34 (0,0))):=fh (by have h:=QO (w.alloc (F #[G D 0 0,G D 0 0,G D 0 0,G D 0 0] 31)) (F #[G D 0 0,G D 0 0,G D 0 0,G D 0 0,J C 0,J C 0,J C 0] 34);rw[Rf] at h;exact h);have al:ft w ((w.alloc (F #[G D 0 0,G D 0 0,G D 0 0,G D 0 0] 31)).alloc (F #[G D 0 0,G D 0 0,G D 0 0,G D 0 0,J C 0,J C 0,J C 0] 34)):=gG;have aS:=Ty.up _ hx al;go_enter func8,ntmps8;go_upto_region 1 with(fail);obtain⟨g3,aL⟩:∃ q,w.heap.size=q:=⟨_,rfl⟩
 obtain⟨g4,aM⟩:∃ q,g3+1=q:=⟨_,rfl⟩
 rw[aL] at aa a8 |-;rw[aM] at a8 |-;generalize ((w.alloc _).alloc _)=Y at aa a8 al aS |-;have aT:g4≠g3:=by omega
 have bf:w.heap.size<=g3:=by omega
 have bg:w.heap.size<=g4:=by omega
 have bk:=(blt aa.out)
 have bl:=(blt a8.out)
 clear aL aM;go_upto_region 2 with(go_at_call 32;(with_reducible refine(zxa aS hl).mono ?_);rintro e W1 ⟨k,rfl,ak⟩);go_upto_region 3 with(go_at_call 33;(with_reducible refine(zvZ ak).mono ?_);rintro e W2 ⟨A,c,p,b,b0,b1,A0,c0,A1,c1,A2,c2,T,SP,rfl,hD,hB,aJ,aK,hP,aG,hT,aI,ag,aZ⟩);have e7:=QO W2 (F #[J C b.Frames,J C b.Inline,H b.Fold,H b.Split] 71);have e8:=QO (W2.alloc (F #[J C b.Frames,J C b.Inline,H b.Fold,H b.Split] 71)) (F #[G A0 (zn p b b0 b1).fq.length c0,G A1 (zn p b b0 b1).fu.length c1,G A2 (zn p b b0 b1).Entries.length c2] 28);have e7:=zj e7 (show ft _ ((W2.alloc (F #[J C b.Frames,J C b.Inline,H b.Fold,H b.Split] 71)).alloc (F #[G A0 (zn p b b0 b1).fq.length c0,G A1 (zn p b b0 b1).fu.length c1,G A2 (zn p b b0 b1).Entries.length c2] 28)) from gG);rw[Rf] at e8;have ae:ft W2 ((W2.alloc (F #[J C b.Frames,J C b.Inline,H b.Fold,H b.Split] 71)).alloc (F #[G A0 (zn p b b0 b1).fq.length c0,G A1 (zn p b b0 b1).fu.length c1,G A2 (zn p b b0 b1).Entries.length c2] 28)):=gG;have b4:W2.heap.size≠k:=TY ag.lt;have a7:ft Y W2:=ag.fx;have bd:Y.heap.size<=W1.heap.size:=ak.fx.size;obtain⟨g7,aN⟩:∃ q,W2.heap.size=q:=⟨_,rfl⟩
 obtain⟨g8,aO⟩:∃ q,g7+1=q:=⟨_,rfl⟩
 rw[aN] at e7 e8 b4 |-;rw[aO] at e8 |-;have ac:=ag.more ae;have hT:=kV.jg hT ae;have hP:=(zJ.sl 99).jg hP ae;have bj:Y.heap.size<=W2.heap.size:=a7.size;have b5:g8≠k:=by have:=ag.lt;omega
 have a7:=a7.trans ae;clear ae aZ;generalize ((W2.alloc _).alloc _)=V0 at e7 e8 ac hT hP a7 |-;clear aN aO;have HD:=fh hD;have aU:=fh hB;have az:=fh (Cr hD.ok hD.short hD.four hB aJ aK);have aR:=Ty.read _ hP;obtain⟨q0,q1,q2⟩:=CD (Ty.read _ hT);have av:=fh (zqz (p:=p) (b:=b) (s:=zn p b b0 b1) aR (by have:=hD.len;omega) hD.parts hD.names q0 q1 q2 (by have:=az.out;omega));obtain⟨x0,x1,x2,x3,xf,xl⟩:=iJ e7;obtain⟨y0,y1,y2,yf,yl⟩:=jc e8;clear aR q0 q1 q2 hD hB;go_upto_region 4 with(go_at_call 34;(with_reducible refine av.out.mono ?_);rintro e v3 ⟨B0,d0,B1,d1,B2,d2,B3,d3,rfl,aD,a5⟩);obtain⟨SA,aA,aB⟩:=aD.has;have e9:=QO v3 (F #[G B0 (zX p b (zn p b b0 b1)).1.fo.fq.length d0,G B1 (zX p b (zn p b b0 b1)).1.fo.fu.length d1,G B2 (zX p b (zn p b b0 b1)).1.fo.Entries.length d2,G B3 (zX p b (zn p b b0 b1)).1.fX.length d3] 31);have ab:ft v3 (v3.alloc (F #[G B0 (zX p b (zn p b b0 b1)).1.fo.fq.length d0,G B1 (zX p b (zn p b b0 b1)).1.fo.fu.length d1,G B2 (zX p b (zn p b b0 b1)).1.fo.Entries.length d2,G B3 (zX p b (zn p b b0 b1)).1.fX.length d3] 31)):=(ft.refl _).alloc _;have e8:=zj (zj e8 a5) ab;have hA:=oS.jg aA.1 ab;have hT:=kV.jg (kV.jg hT a5) ab;have hP:=(zJ.sl 99).jg ((zJ.sl 99).jg hP a5) ab;have aC:=(ac.more a5).more ab;have a7:=(a7.trans a5).trans ab;have e3:=zj aa.out a7;have e4:=zj a8.out a7;have be:=ak.lo;have b2:g3≠k:=by omega
 have b3:g4≠k:=by omega
 have bc:=a5.size;have aQ:v3.heap.size≠k:=TY (ac.more a5).lt;have b7:Y.heap.size<=v3.heap.size:=(ac.more a5).fx.size
 have ap:=fh (show ∀ q∈SA,(q≠g3/\q≠g4)/\q≠k from fun q hq=>by
  have h1:=aB q hq;have h2:=ac.lt;have h3:=ac.fx.size
  omega)
 have aV:=fh (show ∀ q∈T,(q≠g3/\q≠g4)/\q≠k from fun q hq=>by
  have h1:=aI q hq
  omega)
 have ay:=fh (show ∀ q∈SP,(q≠g3/\q≠g4)/\q≠k from fun q hq=>by
  have h1:=aG q hq
  omega)
 obtain⟨g9,aP⟩:∃ q,v3.heap.size=q:=⟨_,rfl⟩
 rw[aP] at e9 aQ b7 |-;clear aP aA aB aD x0 x1 x2 x3 xf xl y0 y1 y2 yf yl av a5 aI aG ab;generalize (v3.alloc _)=QH at e3 e4 e8 e9 hA hT hP aC a7 |-;have aq:=fh aC;have HT:=fh hT;have HP:=fh hP;have HA:=fh hA;have aa:=fh e3;have a8:=fh e4;have ar:=fh e9;clear hT hP hA e3 e4 e9;obtain⟨z0,z1,z2,zf,l8⟩:=jc e8;have k8:g8∉[k]:=by simpa using b5
 go_cut [11,12] from 28 to 39 (fun v v12 wx=>(∃ bb,v12=H bb)/\∃(a0 x y:Nat) (C0:X Ri) (f0:Nat) (C1:X Ri) (f1:Nat) (C2:X Ri) (f2:Nat) (C3:X Ri) (f3:Nat) (QC:Q Nat),v=.pointer (Z ⟨a0,0,D⟩)/\(x:Int)<3/\(y:Int)<12/\
  wx.heap[a0]?=Z (F #[G C0 (zx (zn p b b0 b1) (1+(x:Int)) (1+(y:Int))).1.fo.fq.length f0,G C1 (zx (zn p b b0 b1) (1+(x:Int)) (1+(y:Int))).1.fo.fu.length f1,G C2 (zx (zn p b b0 b1) (1+(x:Int)) (1+(y:Int))).1.fo.Entries.length f2,G C3 (zx (zn p b b0 b1) (1+(x:Int)) (1+(y:Int))).1.fk.length f3,J C (zx (zn p b b0 b1) (1+(x:Int)) (1+(y:Int))).1.fO,J C (zx (zn p b b0 b1) (1+(x:Int)) (1+(y:Int))).1.Left,J C (zx (zn p b b0 b1) (1+(x:Int)) (1+(y:Int))).1.Slice] 34 (0,0))/\mS.O wx [G C0 (zx (zn p b b0 b1) (1+(x:Int)) (1+(y:Int))).1.fo.fq.length f0,G C1 (zx (zn p b b0 b1) (1+(x:Int)) (1+(y:Int))).1.fo.fu.length f1,G C2 (zx (zn p b b0 b1) (1+(x:Int)) (1+(y:Int))).1.fo.Entries.length f2,G C3 (zx (zn p b b0 b1) (1+(x:Int)) (1+(y:Int))).1.fk.length f3,J C (zx (zn p b b0 b1) (1+(x:Int)) (1+(y:Int))).1.fO,J C (zx (zn p b b0 b1) (1+(x:Int)) (1+(y:Int))).1.Left,J C (zx (zn p b b0 b1) (1+(x:Int)) (1+(y:Int))).1.Slice] (zx (zn p b b0 b1) (1+(x:Int)) (1+(y:Int))).1 QC/\(∀ q∈QC,QH.heap.size<=q/\q≠a0/\q≠k)/\QH.heap.size<=a0/\iM Y wx k/\fw [k] QH wx)
 case first=>
  have SZ:∀{W9:U},fw [k] QH W9->QL W9 ⟨g8,0,D⟩=Z (G A0 (zn p b b0 b1).fq.length c0)/\QL W9 ⟨g8,1,D⟩=Z (G A1 (zn p b b0 b1).fu.length c1)/\QL W9 ⟨g8,2,D⟩=Z (G A2 (zn p b b0 b1).Entries.length c2):=fun h=>⟨(h.cell l8 k8 _).trans z0,(h.cell l8 k8 _).trans z1,(h.cell l8 k8 _).trans z2⟩;refine jT (fun w'=>QL w' ⟨g8,0,D⟩=Z (G A0 (zn p b b0 b1).fq.length c0)/\QL w' ⟨g8,1,D⟩=Z (G A1 (zn p b b0 b1).fu.length c1)/\QL w' ⟨g8,2,D⟩=Z (G A2 (zn p b b0 b1).Entries.length c2)) 13 (by kernel_rfl) ⟨zc z0,zc z1,zc z2⟩ (fun hH=>?_);have a4:ft QH QH.drew:=(ft.refl _).drew;have HC:=aq.out.more a4;have HO:=a4.only [k];clear a4;generalize QH.drew=Wx at HC HO hH |-
  repeat' first
   | (revert hK;intro hK
      first
       | ((fail_if_success clear D2)
          refine sC BV rfl rfl (nO HC 3 (by decide) (by decide)) ?_ ?_
          ·go_simp
          rintro e Wx ⟨x,rfl,hx,hC,hS⟩
          refine⟨_,rfl,?_⟩
          try have a1:=kb hS a1 af
          try have hF:=kO hF hS kF
          have HC:=hC
          have HO:=HO.trans hS
          clear hC hS
          have bh:QP C (1+(x:Int))=1+(x:Int):=iw
          refine hK.out _ _ (SZ HO) ?_
          clear hK
          have D2:=trivial
          try simp only[gO])
       | ((fail_if_success clear D5)
          refine sC BV rfl rfl (nO HC 12 (by decide) (by decide)) ?_ ?_
          ·go_simp
          rintro e Wx ⟨y,rfl,hy,hC,hS⟩
          refine⟨_,rfl,?_⟩
          try have a1:=kb hS a1 af
          try have hF:=kO hF hS kF
          have HC:=hC
          have HO:=HO.trans hS
          clear hC hS
          have bi:QP C (1+(y:Int))=1+(y:Int):=iw
          refine hK.out _ _ (SZ HO) ?_
          clear hK
          have D5:=trivial
          try simp only[gO])
       | ((fail_if_success clear D7)
          have aH:=kO HT.out HO (fun q hq=>(aV.out q hq).2)
          obtain⟨p0,p1,p2⟩:=CD (Ty.read _ aH)
          have aw:=fh (zsR (th:=1+(x:Int)) (sl:=1+(y:Int)) p0 p1 p2 (by have:=az.out;omega) ⟨by omega,by omega⟩ ⟨by omega,by omega⟩)
          clear aH p0 p1 p2
          refine sC K6 rfl rfl aw.out ?_ ?_
          ·go_simp
          rintro e Wx ⟨C0,f0,C1,f1,C2,f2,C3,f3,rfl,aF,hg⟩
          refine⟨_,rfl,?_⟩
          obtain⟨QC,aE,ah⟩:=aF.has
          have hF:=aE.1
          have kF:∀ q∈QC,q≠k:=fun q hq=>by have h1:=ah q hq;have h2:=HC.lt;omega
          have zF:∀ q∈QC,QH.heap.size<=q:=fun q hq=>Rj HO.size (ah q hq)
          try have nF:=Dq ah a1
          try have a1:=kb (hg.only [k]) a1 af
          have HC:=HC.more hg
          have HO:=HO.trans (hg.only [k])
          clear hg ah aE aF aw
          refine hK.out _ _ (SZ HO) ?_
          clear hK
          have D7:=trivial
          try simp only[gO])
       | (go_simp
          first
           | ((fail_if_success clear a3)
              obtain⟨hg,a1,af,an⟩:=AX HC HO (F #[G D 0 0,G D 0 0,G D 0 0,G D 0 0,J C 0,J C 0,J C 0] 34)
              refine hK.out _ _ (SZ (HO.trans (hg.only [k]))) ?_
              try have nF:=IF hF
              clear hK
              try have hF:=kO hF (hg.only [k]) kF
              have HC:=HC.more hg
              have HO:=HO.trans (hg.only [k])
              clear hg
              generalize hq:Wx.heap.size=a0 at a1 af an |-
              try rw[hq] at nF
              clear hq
              obtain⟨Wx,hW⟩:∃ QH,RR Wx (F #[G D 0 0,G D 0 0,G D 0 0,G D 0 0,J C 0,J C 0,J C 0] 34)=QH:=⟨_,rfl⟩
              rw[hW] at a1 HC HO |-
              try rw[hW] at hF
              clear hW
              have a3:=trivial
              try simp only[gO])
           | ((fail_if_success clear aj)
              obtain⟨t0,t1,t2,t3,t4,t5,t6,tf,tl⟩:=zS a1
              go_simp
              obtain⟨e9,o9⟩:=mK a1 (G C0 (zx (zn p b b0 b1) (1+(x:Int)) (1+(y:Int))).1.fo.fq.length f0) (G C1 (zx (zn p b b0 b1) (1+(x:Int)) (1+(y:Int))).1.fo.fu.length f1) (G C2 (zx (zn p b b0 b1) (1+(x:Int)) (1+(y:Int))).1.fo.Entries.length f2) (G C3 (zx (zn p b b0 b1) (1+(x:Int)) (1+(y:Int))).1.fk.length f3) (J C (zx (zn p b b0 b1) (1+(x:Int)) (1+(y:Int))).1.fO) (J C (zx (zn p b b0 b1) (1+(x:Int)) (1+(y:Int))).1.Left) (J C (zx (zn p b b0 b1) (1+(x:Int)) (1+(y:Int))).1.Slice)
              have hF:=kO hF o9 nF
              have b6:Y.heap.size<=a0:=Rj aq.out.fx.size an
              have HC:=HC.only o9 (by simpa using af.symm) (fun b hb=>by simp only[QN] at hb;omega)
              have HO:=HO.then o9 (fun b hb=>.inr (by simp only[QN] at hb;omega))
              refine hK.out _ _ (SZ HO) ?_
              clear hK t0 t1 t2 t3 t4 t5 t6 tf tl a1 o9
              generalize RQ (RQ (RQ (RQ (RQ (RQ (RQ Wx _ _) _ _) _ _) _ _) _ _) _ _) _ _=W9 at e9 hF HC HO |-
              have aj:=trivial
              try simp only[gO])))
   | ((fail_if_success clear T0);refine fA.st 0 [13] (SZ HO) ?_;have T0:=trivial;try simp only[gO])
   | ((fail_if_success clear T1);refine fA.st 1 [13] (SZ HO) ?_;have T1:=trivial;try simp only[gO])
   | ((fail_if_success clear T3);revert D2;intro D2;refine fA.st 3 [13] (SZ HO) ?_;have T3:=trivial;try simp only[gO])
   | ((fail_if_success clear T4);refine fA.st 4 [13] (SZ HO) ?_;have T4:=trivial;try simp only[gO])
   | ((fail_if_success clear T6);revert D2 D5;intro D2 D5;refine fA.st 6 [13] (SZ HO) ?_;have T6:=trivial;try simp only[gO])
   | ((fail_if_success clear T8);revert D2 D5 D7;intro D2 D5 D7;refine fA.st 8 [13] (SZ HO) ?_;have T8:=trivial;try simp only[gO])
   | ((fail_if_success clear T9);revert D2 D5 D7;intro D2 D5 D7;refine fA.st 9 [13] (SZ HO) ?_;have T9:=trivial;try simp only[gO])
   | ((fail_if_success clear aW);revert D2 D5 D7;intro D2 D5 D7;refine fA.st 10 [13] (SZ HO) ?_;have aW:=trivial;try simp only[gO])
   | (revert D2 D5 D7 a3 aj;intro D2 D5 D7 a3 aj
      refine fA.sl (fun K hK=>?_)
      go_simp
      refine hK.out _ _ ?_
      clear hK
      try simp only[gO]
      go_wp2_with(fail)
      go_meet
      exact⟨⟨_,rfl⟩,a0,x,y,C0,f0,C1,f1,C2,f2,C3,f3,QC,rfl,hx,hy,e9,hF,fun q hq=>⟨zF q hq,nF q hq,kF q hq⟩,an,HC,HO⟩)
   | (revert D2 D5 D7 a3;intro D2 D5 D7 a3;refine fA.s1 12 (fun K hK=>?_))
   | (revert D2 D5 D7;intro D2 D5 D7;refine fA.s1 11 (fun K hK=>?_))
   | (revert D2 D5 a3;intro D2 D5 a3;refine fA.s1 7 (fun K hK=>?_))
   | (revert D2 D5;intro D2 D5;refine fA.s2 7 11 (fun K hK=>?_) (fun K hK=>?_))
   | (revert D2 a3;intro D2 a3;refine fA.s1 5 (fun K hK=>?_))
   | (revert D2;intro D2;refine fA.s2 5 11 (fun K hK=>?_) (fun K hK=>?_))
   | (revert a3;intro a3;refine fA.s1 2 (fun K hK=>?_))
   | (refine fA.s2 2 11 (fun K hK=>?_) (fun K hK=>?_))
 obtain⟨⟨bb,rfl⟩,a0,x,y,C0,f0,C1,f1,C2,f2,C3,f3,QC,rfl,hx,hy,a1,hF,aY,ba,HC,HO⟩:=hcut;have am:g9∉[k]:=by simpa using aQ
 have e9:=(HO.block g9 (blt ar.out) am).trans ar.out;have b8:=(blt aa.out)
 have b9:=(blt a8.out)
 have e3:=(HO.block g3 b8 (by simpa using b2)).trans aa.out;have e4:=(HO.block g4 b9 (by simpa using b3)).trans a8.out;have hA:=oS.gD HA.out (fun q hq=>HO.block q (oS.ja HA.out q hq) (by simpa using(ap.out q hq).2));have hP:=(zJ.sl 99).gD HP.out (fun q hq=>HO.block q ((zJ.sl 99).ja HP.out q hq) (by simpa using(ay.out q hq).2));have a6:=al.trans HC.fx;have ao:=fh (fun q hq=>(ap.out q hq).1);have ax:=fh (fun q hq=>(ay.out q hq).1);have au:=fh (show ∀ q∈QC,q≠g3/\q≠g4 from fun q hq=>by have:=(aY q hq).1;omega);have ai:g9≠g3:=by omega
 have a2:a0≠g3:=by omega
 obtain⟨u0,u1,u2,u3,_,_⟩:=iJ e9;obtain⟨u4,u5,u6,u7,u8,u9,u10,_,_⟩:=zS a1;clear e8 z0 z1 z2 zf l8 k8;go_upto_region 5 with(fail);have a4:ft wc wc.drew:=(ft.refl _).drew;refine jT (fun w'=>QL w' ⟨g9,0,D⟩=Z (G B0 (zX p b (zn p b b0 b1)).1.fo.fq.length d0)/\QL w' ⟨g9,1,D⟩=Z (G B1 (zX p b (zn p b b0 b1)).1.fo.fu.length d1)/\QL w' ⟨g9,2,D⟩=Z (G B2 (zX p b (zn p b b0 b1)).1.fo.Entries.length d2)/\QL w' ⟨g9,3,D⟩=Z (G B3 (zX p b (zn p b b0 b1)).1.fX.length d3)/\QL w' ⟨a0,0,D⟩=Z (G C0 (zx (zn p b b0 b1) (1+(x:Int)) (1+(y:Int))).1.fo.fq.length f0)/\QL w' ⟨a0,1,D⟩=Z (G C1 (zx (zn p b b0 b1) (1+(x:Int)) (1+(y:Int))).1.fo.fu.length f1)/\QL w' ⟨a0,2,D⟩=Z (G C2 (zx (zn p b b0 b1) (1+(x:Int)) (1+(y:Int))).1.fo.Entries.length f2)/\QL w' ⟨a0,3,D⟩=Z (G C3 (zx (zn p b b0 b1) (1+(x:Int)) (1+(y:Int))).1.fk.length f3)/\QL w' ⟨a0,4,D⟩=Z (J C (zx (zn p b b0 b1) (1+(x:Int)) (1+(y:Int))).1.fO)/\QL w' ⟨a0,5,D⟩=Z (J C (zx (zn p b b0 b1) (1+(x:Int)) (1+(y:Int))).1.Left)/\QL w' ⟨a0,6,D⟩=Z (J C (zx (zn p b b0 b1) (1+(x:Int)) (1+(y:Int))).1.Slice)) 5 (by kernel_rfl) ⟨zc u0,zc u1,zc u2,zc u3,zc u4,zc u5,zc u6,zc u7,zc u8,zc u9,zc u10⟩ (fun hH=>?_);have e3:=zj e3 a4;have e4:=zj e4 a4;have hA:=oS.jg hA a4;have hF:=mS.jg hF a4;have hP:=(zJ.sl 99).jg hP a4;have a6:=a6.trans a4;clear a4 u0 u1 u2 u3 u4 u5 u6 u7 u8 u9 u10 e9 a1;generalize wc.drew=Wx at e3 e4 hA hF hP a6 hH |-;obtain⟨u0,u1,u2,u3,u4,u5,u6,u7,u8,u9,u10⟩:=id hH;refine .tq 0 [5] hH ?_
 try simp only[gO]
 refine .tq 1 [5] hH ?_
 try simp only[gO]
 refine .tq 2 [5] hH ?_
 try simp only[gO]
 refine .tq 3 [5] hH ?_
 try simp only[gO]
 refine fA.s1 4 (fun K hK=>?_);obtain⟨t0,t1,t2,t3,tf,tl⟩:=iJ e3;go_simp;obtain⟨ad,o4⟩:=wb e3 (G B0 (zX p b (zn p b b0 b1)).1.fo.fq.length d0) (G B1 (zX p b (zn p b b0 b1)).1.fo.fu.length d1) (G B2 (zX p b (zn p b b0 b1)).1.fo.Entries.length d2) (G B3 (zX p b (zn p b b0 b1)).1.fX.length d3);have l9:g9<Wx.heap.size:=AH u0;have a9:a0<Wx.heap.size:=AH u4;have u0:=(o4.cell l9 (by simpa using ai) _).trans u0;have u1:=(o4.cell l9 (by simpa using ai) _).trans u1;have u2:=(o4.cell l9 (by simpa using ai) _).trans u2;have u3:=(o4.cell l9 (by simpa using ai) _).trans u3;have u4:=(o4.cell a9 (by simpa using a2) _).trans u4;have u5:=(o4.cell a9 (by simpa using a2) _).trans u5;have u6:=(o4.cell a9 (by simpa using a2) _).trans u6;have u7:=(o4.cell a9 (by simpa using a2) _).trans u7;have u8:=(o4.cell a9 (by simpa using a2) _).trans u8;have u9:=(o4.cell a9 (by simpa using a2) _).trans u9;have u10:=(o4.cell a9 (by simpa using a2) _).trans u10;have e4:=(o4.block g4 (blt e4) (by simpa using aT)).trans e4;have hA:=oS.gD hA (fun q hq=>o4.block q (oS.ja hA q hq) (by simpa using(ao.out q hq).1));have hF:=mS.gD hF (fun q hq=>o4.block q (mS.ja hF q hq) (by simpa using(au.out q hq).1));have hP:=(zJ.sl 99).gD hP (fun q hq=>o4.block q ((zJ.sl 99).ja hP q hq) (by simpa using(ax.out q hq).1));have a6:=o4.fx a6 (fun b hb=>by simp only[QN] at hb;omega);refine hK.out _ _ ⟨u0,u1,u2,u3,u4,u5,u6,u7,u8,u9,u10⟩ ?_;clear hK t0 t1 t2 t3 tf tl o4 l9 a9;generalize RQ (RQ (RQ (RQ Wx _ _) _ _) _ _) _ _=W9 at ad e4 hA hF hP a6 u0 u1 u2 u3 u4 u5 u6 u7 u8 u9 u10 |-
 try simp only[gO]
 obtain⟨t0,t1,t2,t3,t4,t5,t6,tf,tl⟩:=zS e4;refine fA.sl (fun K hK=>?_);go_simp;refine hK.out _ _ ?_;clear hK
 try simp only[gO]
 obtain⟨aX,o5⟩:=mK e4 (G C0 (zx (zn p b b0 b1) (1+(x:Int)) (1+(y:Int))).1.fo.fq.length f0) (G C1 (zx (zn p b b0 b1) (1+(x:Int)) (1+(y:Int))).1.fo.fu.length f1) (G C2 (zx (zn p b b0 b1) (1+(x:Int)) (1+(y:Int))).1.fo.Entries.length f2) (G C3 (zx (zn p b b0 b1) (1+(x:Int)) (1+(y:Int))).1.fk.length f3) (J C (zx (zn p b b0 b1) (1+(x:Int)) (1+(y:Int))).1.fO) (J C (zx (zn p b b0 b1) (1+(x:Int)) (1+(y:Int))).1.Left) (J C (zx (zn p b b0 b1) (1+(x:Int)) (1+(y:Int))).1.Slice);have ad:=(o5.block g3 (blt ad) (by simpa using aT.symm)).trans ad;have hA:=oS.gD hA (fun q hq=>o5.block q (oS.ja hA q hq) (by simpa using(ao.out q hq).2));have hF:=mS.gD hF (fun q hq=>o5.block q (mS.ja hF q hq) (by simpa using(au.out q hq).2));have hP:=(zJ.sl 99).gD hP (fun q hq=>o5.block q ((zJ.sl 99).ja hP q hq) (by simpa using(ax.out q hq).2));have a6:=o5.fx a6 (fun b hb=>by simp only[QN] at hb;omega);obtain⟨r0,r1,r2,r3,_,_⟩:=iJ ad;obtain⟨s0,s1,s2,s3,s4,s5,s6,_,_⟩:=zS aX;go_wp2_with(fail);refine QU (v:=.tuple #[G A p.length c,.agg #[G B0 (zX p b (zn p b b0 b1)).1.fo.fq.length d0,G B1 (zX p b (zn p b b0 b1)).1.fo.fu.length d1,G B2 (zX p b (zn p b b0 b1)).1.fo.Entries.length d2,G B3 (zX p b (zn p b b0 b1)).1.fX.length d3],.agg #[G C0 (zx (zn p b b0 b1) (1+(x:Int)) (1+(y:Int))).1.fo.fq.length f0,G C1 (zx (zn p b b0 b1) (1+(x:Int)) (1+(y:Int))).1.fo.fu.length f1,G C2 (zx (zn p b b0 b1) (1+(x:Int)) (1+(y:Int))).1.fo.Entries.length f2,G C3 (zx (zn p b b0 b1) (1+(x:Int)) (1+(y:Int))).1.fk.length f3,J C (zx (zn p b b0 b1) (1+(x:Int)) (1+(y:Int))).1.fO,J C (zx (zn p b b0 b1) (1+(x:Int)) (1+(y:Int))).1.Left,J C (zx (zn p b b0 b1) (1+(x:Int)) (1+(y:Int))).1.Slice]]) (by simp[Rd,results8,go_sem,r0,r1,r2,r3,s0,s1,s2,s3,s4,s5,s6]) rfl ?_;exact⟨p,b,b0,b1,x,y,A,c,B0,d0,B1,d1,B2,d2,B3,d3,C0,f0,C1,f1,C2,f2,C3,f3,rfl,HD.out,aU.out,aJ,aK,hx,hy,Ty.read _ hP,Ty.read _ hA,Ty.read _ hF,a6⟩
end Go.Proofs.YthgbglbaemelhaaGreat
