/-
  PART.
-/
import Derived.Test.YthgbglbaemelhaaGreatM17LawRecords
set_option linter.unusedVariables false
set_option linter.unusedSimpArgs false
set_option maxRecDepth 100000
set_option maxHeartbeats 8000000
namespace Go.Proofs.YthgbglbaemelhaaGreat
open Value renaming slice->J,int->C,bool->X
open IntKind renaming i64->Z,wrap->Vl
open Option renaming none->I,some->F
open Obj renaming cells->U
open Bool renaming true->H,false->M
open Go renaming World->V,results->VF,Calls->VK,Addr->VQ,Ending->Z9,yielded->Xb
open World renaming cell?->Vg,setCell->Wc,alloc->WJ
open Region renaming wanted->V6,ready->Wv,noSelect->XV,Mode->XY,free->YI
open Tryz
open Go.RowKit
theorem OO:Static prog 35:=⟨_,func35,rfl,gv⟩
def Ta (w:V)(e:Z9)(W':V):Prop:=∃(p:D fB)(b:gP)(b0 b1:Int)(x y:Nat)(A:N VQ)(c:Nat)(B0:N VQ)(d0:Nat)(B1:N VQ)(d1:Nat)(B2:N VQ)(d2:Nat)(B3:N VQ)(d3:Nat)(C0:N VQ)(f0:Nat)(C1:N VQ)(f1:Nat)(C2:N VQ)(f2:Nat)(C3:N VQ)(f3:Nat),
 e=.returned (.tuple #[J A p.length c,.agg #[J B0 (kY p b (zo p b b0 b1)).1.fo.fw.length d0,J B1 (kY p b (zo p b b0 b1)).1.fo.fD.length d1,J B2 (kY p b (zo p b b0 b1)).1.fo.fm.length d2,J B3 (kY p b (zo p b b0 b1)).1.gX.length d3],.agg #[J C0 (zB (zo p b b0 b1) (1+(x:Int)) (1+(y:Int))).1.fo.fw.length f0,J C1 (zB (zo p b b0 b1) (1+(x:Int)) (1+(y:Int))).1.fo.fD.length f1,J C2 (zB (zo p b b0 b1) (1+(x:Int)) (1+(y:Int))).1.fo.fm.length f2,J C3 (zB (zo p b b0 b1) (1+(x:Int)) (1+(y:Int))).1.fu.length f3,C Z (zB (zo p b b0 b1) (1+(x:Int)) (1+(y:Int))).1.gM,C Z (zB (zo p b b0 b1) (1+(x:Int)) (1+(y:Int))).1.gO,C Z (zB (zo p b b0 b1) (1+(x:Int)) (1+(y:Int))).1.fW]])/\jo p/\kC b=H/\(1<=b0/\b0<=9000)/\(20000<=b1/\b1<=1000000)/\(x:Int)<3/\(y:Int)<12/\(zS.sl 99).R W' W'.heap.size [J A p.length c] p/\qP.R W' W'.heap.size [J B0 (kY p b (zo p b b0 b1)).1.fo.fw.length d0,J B1 (kY p b (zo p b b0 b1)).1.fo.fD.length d1,J B2 (kY p b (zo p b b0 b1)).1.fo.fm.length d2,J B3 (kY p b (zo p b b0 b1)).1.gX.length d3] (kY p b (zo p b b0 b1)).1/\nz.R W' W'.heap.size [J C0 (zB (zo p b b0 b1) (1+(x:Int)) (1+(y:Int))).1.fo.fw.length f0,J C1 (zB (zo p b b0 b1) (1+(x:Int)) (1+(y:Int))).1.fo.fD.length f1,J C2 (zB (zo p b b0 b1) (1+(x:Int)) (1+(y:Int))).1.fo.fm.length f2,J C3 (zB (zo p b b0 b1) (1+(x:Int)) (1+(y:Int))).1.fu.length f3,C Z (zB (zo p b b0 b1) (1+(x:Int)) (1+(y:Int))).1.gM,C Z (zB (zo p b b0 b1) (1+(x:Int)) (1+(y:Int))).1.gO,C Z (zB (zo p b b0 b1) (1+(x:Int)) (1+(y:Int))).1.fW] (zB (zo p b b0 b1) (1+(x:Int)) (1+(y:Int))).1/\fy w W'
theorem zvL {w:V}{A:N VQ}{n c:Nat}{xs:D UInt8}(hx:(nV.sl 5).R w w.heap.size [J A n c] xs)(hl:xs.length<=1099511627776):VK prog 8 #[J A n c] w (Ta w):=by
 have aa:=fk (zj (Vj w (U #[J I 0 0,J I 0 0,J I 0 0,J I 0 0] 31)) (show fy _ ((w.alloc (U #[J I 0 0,J I 0 0,J I 0 0,J I 0 0] 31)).alloc (U #[J I 0 0,J I 0 0,J I 0 0,J I 0 0,C Z 0,C Z 0,C Z 0] 34)) from gG));have a8:Hid (((w.alloc (U #[J I 0 0,J I 0 0,J I 0 0,J I 0 0] 31)).alloc (U #[J I 0 0,J I 0 0,J I 0 0,J I 0 0,C Z 0,C Z 0,C Z 0] 34)).heap[w.heap.size+1]?=F (U #[J I 0 0,J I 0 0,J I 0 0,J I 0 0,C Z 0,C Z 0,C Z 0] 34 (0,0))):=fk (by have h:=Vj (w.alloc (U #[J I 0 0,J I 0 0,J I 0 0,J I 0 0] 31)) (U #[J I 0 0,J I 0 0,J I 0 0,J I 0 0,C Z 0,C Z 0,C Z 0] 34);rw[VH] at h;exact h);have al:fy w ((w.alloc (U #[J I 0 0,J I 0 0,J I 0 0,J I 0 0] 31)).alloc (U #[J I 0 0,J I 0 0,J I 0 0,J I 0 0,C Z 0,C Z 0,C Z 0] 34)):=gG;have aS:=Ty.up _ hx al;go_enter func8,ntmps8;go_upto_region 1 with(fail);obtain⟨g3,aL⟩:∃ q,w.heap.size=q:=⟨_,rfl⟩
 obtain⟨g4,aM⟩:∃ q,g3+1=q:=⟨_,rfl⟩
 rw[aL] at aa a8 |-;rw[aM] at a8 |-;generalize ((w.alloc _).alloc _)=Y at aa a8 al aS |-;have aT:g4≠g3:=fh;have bf:w.heap.size<=g3:=fh;have bg:w.heap.size<=g4:=fh;have bk:=(blt aa.out)
 have bl:=(blt a8.out)
 clear aL aM;go_upto_region 2 with(go_at_call 32;refine(zzR aS hl).mono ?_;rintro e W1 ⟨k,rfl,ak⟩);go_upto_region 3 with(go_at_call 33;refine(zyC ak).mono ?_;rintro e W2 ⟨A,c,p,b,b0,b1,A0,c0,A1,c1,A2,c2,T,SP,rfl,hD,hB,aJ,aK,hP,aG,hT,aI,ag,aZ⟩);have e7:=Vj W2 (U #[C Z b.gW,C Z b.gN,X b.iO,X b.ic] 71);have e8:=Vj (W2.alloc (U #[C Z b.gW,C Z b.gN,X b.iO,X b.ic] 71)) (U #[J A0 (zo p b b0 b1).fw.length c0,J A1 (zo p b b0 b1).fD.length c1,J A2 (zo p b b0 b1).fm.length c2] 28);have e7:=zj e7 (show fy _ ((W2.alloc (U #[C Z b.gW,C Z b.gN,X b.iO,X b.ic] 71)).alloc (U #[J A0 (zo p b b0 b1).fw.length c0,J A1 (zo p b b0 b1).fD.length c1,J A2 (zo p b b0 b1).fm.length c2] 28)) from gG);rw[VH] at e8;have ae:fy W2 ((W2.alloc (U #[C Z b.gW,C Z b.gN,X b.iO,X b.ic] 71)).alloc (U #[J A0 (zo p b b0 b1).fw.length c0,J A1 (zo p b b0 b1).fD.length c1,J A2 (zo p b b0 b1).fm.length c2] 28)):=gG;have b4:W2.heap.size≠k:=Yy ag.lt;have a7:fy Y W2:=ag.fH;have bd:Y.heap.size<=W1.heap.size:=ak.fH.size;obtain⟨g7,aN⟩:∃ q,W2.heap.size=q:=⟨_,rfl⟩
 obtain⟨g8,aO⟩:∃ q,g7+1=q:=⟨_,rfl⟩
 rw[aN] at e7 e8 b4 |-;rw[aO] at e8 |-;have ac:=ag.more ae;have hT:=nh.jG hT ae;have hP:=(zS.sl 99).jG hP ae;have bj:Y.heap.size<=W2.heap.size:=a7.size;have b5:g8≠k:=by have:=ag.lt;omega
 have a7:=a7.trans ae;clear ae aZ;generalize ((W2.alloc _).alloc _)=V0 at e7 e8 ac hT hP a7 |-;clear aN aO;have HD:=fk hD;have aU:=fk hB;have az:=fk (E8 hD.ok hD.short hD.four hB aJ aK);have aR:=Ty.read _ hP;obtain⟨q0,q1,q2⟩:=Fg (Ty.read _ hT);have av:=fk (zsP (p:=p) (b:=b) (s:=zo p b b0 b1) aR (by have:=hD.len;omega) hD.parts hD.names q0 q1 q2 (by have:=az.out;omega));obtain⟨x0,x1,x2,x3,xf,xl⟩:=jF e7;obtain⟨y0,y1,y2,yf,yl⟩:=kL e8;clear aR q0 q1 q2 hD hB;go_upto_region 4 with(go_at_call 34;refine av.out.mono ?_;rintro e v3 ⟨B0,d0,B1,d1,B2,d2,B3,d3,rfl,aD,a5⟩);obtain⟨SA,aA,aB⟩:=aD.has;have e9:=Vj v3 (U #[J B0 (kY p b (zo p b b0 b1)).1.fo.fw.length d0,J B1 (kY p b (zo p b b0 b1)).1.fo.fD.length d1,J B2 (kY p b (zo p b b0 b1)).1.fo.fm.length d2,J B3 (kY p b (zo p b b0 b1)).1.gX.length d3] 31);have ab:fy v3 (v3.alloc (U #[J B0 (kY p b (zo p b b0 b1)).1.fo.fw.length d0,J B1 (kY p b (zo p b b0 b1)).1.fo.fD.length d1,J B2 (kY p b (zo p b b0 b1)).1.fo.fm.length d2,J B3 (kY p b (zo p b b0 b1)).1.gX.length d3] 31)):=(fy.refl _).alloc _;have e8:=zj (zj e8 a5) ab;have hA:=qP.jG aA.1 ab;have hT:=nh.jG (nh.jG hT a5) ab;have hP:=(zS.sl 99).jG ((zS.sl 99).jG hP a5) ab;have aC:=(ac.more a5).more ab;have a7:=(a7.trans a5).trans ab;have e3:=zj aa.out a7;have e4:=zj a8.out a7;have be:=ak.lo;have b2:g3≠k:=fh;have b3:g4≠k:=fh;have bc:=a5.size;have aQ:v3.heap.size≠k:=Yy (ac.more a5).lt;have b7:Y.heap.size<=v3.heap.size:=(ac.more a5).fH.size
 have ap:=fk (show ∀ q∈SA,(q≠g3/\q≠g4)/\q≠k from fun q hq=>by
  have h1:=aB q hq;have h2:=ac.lt;have h3:=ac.fH.size
  omega)
 have aV:=fk (show ∀ q∈T,(q≠g3/\q≠g4)/\q≠k from fun q hq=>by
  have h1:=aI q hq
  omega)
 have ay:=fk (show ∀ q∈SP,(q≠g3/\q≠g4)/\q≠k from fun q hq=>by
  have h1:=aG q hq
  omega)
 obtain⟨g9,aP⟩:∃ q,v3.heap.size=q:=⟨_,rfl⟩
 rw[aP] at e9 aQ b7 |-;clear aP aA aB aD x0 x1 x2 x3 xf xl y0 y1 y2 yf yl av a5 aI aG ab;generalize (v3.alloc _)=Va at e3 e4 e8 e9 hA hT hP aC a7 |-;have aq:=fk aC;have HT:=fk hT;have HP:=fk hP;have HA:=fk hA;have aa:=fk e3;have a8:=fk e4;have ar:=fk e9;clear hT hP hA e3 e4 e9;obtain⟨z0,z1,z2,zf,l8⟩:=kL e8;have k8:g8∉[k]:=by simpa using b5
 go_cut [11,12] from 28 to 39 (fun v v12 wx=>(∃ bb,v12=X bb)/\∃(a0 x y:Nat) (C0:N VQ) (f0:Nat) (C1:N VQ) (f1:Nat) (C2:N VQ) (f2:Nat) (C3:N VQ) (f3:Nat) (U6:D Nat),v=.pointer (F ⟨a0,0,I⟩)/\(x:Int)<3/\(y:Int)<12/\
  wx.heap[a0]?=F (U #[J C0 (zB (zo p b b0 b1) (1+(x:Int)) (1+(y:Int))).1.fo.fw.length f0,J C1 (zB (zo p b b0 b1) (1+(x:Int)) (1+(y:Int))).1.fo.fD.length f1,J C2 (zB (zo p b b0 b1) (1+(x:Int)) (1+(y:Int))).1.fo.fm.length f2,J C3 (zB (zo p b b0 b1) (1+(x:Int)) (1+(y:Int))).1.fu.length f3,C Z (zB (zo p b b0 b1) (1+(x:Int)) (1+(y:Int))).1.gM,C Z (zB (zo p b b0 b1) (1+(x:Int)) (1+(y:Int))).1.gO,C Z (zB (zo p b b0 b1) (1+(x:Int)) (1+(y:Int))).1.fW] 34 (0,0))/\nz.O wx [J C0 (zB (zo p b b0 b1) (1+(x:Int)) (1+(y:Int))).1.fo.fw.length f0,J C1 (zB (zo p b b0 b1) (1+(x:Int)) (1+(y:Int))).1.fo.fD.length f1,J C2 (zB (zo p b b0 b1) (1+(x:Int)) (1+(y:Int))).1.fo.fm.length f2,J C3 (zB (zo p b b0 b1) (1+(x:Int)) (1+(y:Int))).1.fu.length f3,C Z (zB (zo p b b0 b1) (1+(x:Int)) (1+(y:Int))).1.gM,C Z (zB (zo p b b0 b1) (1+(x:Int)) (1+(y:Int))).1.gO,C Z (zB (zo p b b0 b1) (1+(x:Int)) (1+(y:Int))).1.fW] (zB (zo p b b0 b1) (1+(x:Int)) (1+(y:Int))).1 U6/\(∀ q∈U6,Va.heap.size<=q/\q≠a0/\q≠k)/\Va.heap.size<=a0/\jI Y wx k/\fG [k] Va wx)
 case first=>
  have SZ:∀{W9:V},fG [k] Va W9->Vg W9 ⟨g8,0,I⟩=F (J A0 (zo p b b0 b1).fw.length c0)/\Vg W9 ⟨g8,1,I⟩=F (J A1 (zo p b b0 b1).fD.length c1)/\Vg W9 ⟨g8,2,I⟩=F (J A2 (zo p b b0 b1).fm.length c2):=fun h=>⟨(h.cell l8 k8 _).trans z0,(h.cell l8 k8 _).trans z1,(h.cell l8 k8 _).trans z2⟩;refine lO (fun w'=>Vg w' ⟨g8,0,I⟩=F (J A0 (zo p b b0 b1).fw.length c0)/\Vg w' ⟨g8,1,I⟩=F (J A1 (zo p b b0 b1).fD.length c1)/\Vg w' ⟨g8,2,I⟩=F (J A2 (zo p b b0 b1).fm.length c2)) 13 gU ⟨zc z0,zc z1,zc z2⟩ (fun hH=>?_);have a4:fy Va Va.drew:=(fy.refl _).drew;have HC:=aq.out.more a4;have HO:=a4.only [k];clear a4;generalize Va.drew=Wx at HC HO hH |-
  repeat' first
   | (revert hK;intro hK
      first
       | ((fail_if_success clear D2)
          refine rT EA rfl rfl (pT HC 3 gv gv) ?_ ?_
          ·go_simp
          rintro e Wx ⟨x,rfl,hx,hC,hS⟩
          refine⟨_,rfl,?_⟩
          try have a1:=kb hS a1 af
          try have hF:=kO hF hS kF
          have HC:=hC
          have HO:=HO.trans hS
          clear hC hS
          have bh:Vl Z (1+(x:Int))=1+(x:Int):=iw
          refine hK.out _ _ (SZ HO) ?_
          clear hK
          have D2:=trivial
          try simp only[iI])
       | ((fail_if_success clear D5)
          refine rT EA rfl rfl (pT HC 12 gv gv) ?_ ?_
          ·go_simp
          rintro e Wx ⟨y,rfl,hy,hC,hS⟩
          refine⟨_,rfl,?_⟩
          try have a1:=kb hS a1 af
          try have hF:=kO hF hS kF
          have HC:=hC
          have HO:=HO.trans hS
          clear hC hS
          have bi:Vl Z (1+(y:Int))=1+(y:Int):=iw
          refine hK.out _ _ (SZ HO) ?_
          clear hK
          have D5:=trivial
          try simp only[iI])
       | ((fail_if_success clear D7)
          have aH:=kO HT.out HO (fun q hq=>(aV.out q hq).2)
          obtain⟨p0,p1,p2⟩:=Fg (Ty.read _ aH)
          have aw:=fk (zvq (th:=1+(x:Int)) (sl:=1+(y:Int)) p0 p1 p2 (by have:=az.out;omega) ⟨fh,fh⟩ ⟨fh,fh⟩)
          clear aH p0 p1 p2
          refine rT OO rfl rfl aw.out ?_ ?_
          ·go_simp
          rintro e Wx ⟨C0,f0,C1,f1,C2,f2,C3,f3,rfl,aF,hg⟩
          refine⟨_,rfl,?_⟩
          obtain⟨U6,aE,ah⟩:=aF.has
          have hF:=aE.1
          have kF:∀ q∈U6,q≠k:=fun q hq=>by have h1:=ah q hq;have h2:=HC.lt;omega
          have zF:∀ q∈U6,Va.heap.size<=q:=fun q hq=>VL HO.size (ah q hq)
          try have nF:=Ca ah a1
          try have a1:=kb (hg.only [k]) a1 af
          have HC:=HC.more hg
          have HO:=HO.trans (hg.only [k])
          clear hg ah aE aF aw
          refine hK.out _ _ (SZ HO) ?_
          clear hK
          have D7:=trivial
          try simp only[iI])
       | (go_simp
          first
           | ((fail_if_success clear a3)
              obtain⟨hg,a1,af,an⟩:=DC HC HO (U #[J I 0 0,J I 0 0,J I 0 0,J I 0 0,C Z 0,C Z 0,C Z 0] 34)
              refine hK.out _ _ (SZ (HO.trans (hg.only [k]))) ?_
              try have nF:=LO hF
              clear hK
              try have hF:=kO hF (hg.only [k]) kF
              have HC:=HC.more hg
              have HO:=HO.trans (hg.only [k])
              clear hg
              generalize hq:Wx.heap.size=a0 at a1 af an |-
              try rw[hq] at nF
              clear hq
              obtain⟨Wx,hW⟩:∃ Va,WJ Wx (U #[J I 0 0,J I 0 0,J I 0 0,J I 0 0,C Z 0,C Z 0,C Z 0] 34)=Va:=⟨_,rfl⟩
              rw[hW] at a1 HC HO |-
              try rw[hW] at hF
              clear hW
              have a3:=trivial
              try simp only[iI])
           | ((fail_if_success clear aj)
              obtain⟨t0,t1,t2,t3,t4,t5,t6,tf,tl⟩:=jb a1
              go_simp
              obtain⟨e9,o9⟩:=qT a1 (J C0 (zB (zo p b b0 b1) (1+(x:Int)) (1+(y:Int))).1.fo.fw.length f0) (J C1 (zB (zo p b b0 b1) (1+(x:Int)) (1+(y:Int))).1.fo.fD.length f1) (J C2 (zB (zo p b b0 b1) (1+(x:Int)) (1+(y:Int))).1.fo.fm.length f2) (J C3 (zB (zo p b b0 b1) (1+(x:Int)) (1+(y:Int))).1.fu.length f3) (C Z (zB (zo p b b0 b1) (1+(x:Int)) (1+(y:Int))).1.gM) (C Z (zB (zo p b b0 b1) (1+(x:Int)) (1+(y:Int))).1.gO) (C Z (zB (zo p b b0 b1) (1+(x:Int)) (1+(y:Int))).1.fW)
              have hF:=kO hF o9 nF
              have b6:Y.heap.size<=a0:=VL aq.out.fH.size an
              have HC:=HC.only o9 (by simpa using af.symm) (fun b hb=>by simp only[Vi] at hb;omega)
              have HO:=HO.then o9 (fun b hb=>.inr (by simp only[Vi] at hb;omega))
              refine hK.out _ _ (SZ HO) ?_
              clear hK t0 t1 t2 t3 t4 t5 t6 tf tl a1 o9
              generalize Wc (Wc (Wc (Wc (Wc (Wc (Wc Wx _ _) _ _) _ _) _ _) _ _) _ _) _ _=W9 at e9 hF HC HO |-
              have aj:=trivial
              try simp only[iI])))
   | ((fail_if_success clear T0);refine fL.st 0 [13] (SZ HO) ?_;have T0:=trivial;try simp only[iI])
   | ((fail_if_success clear T1);refine fL.st 1 [13] (SZ HO) ?_;have T1:=trivial;try simp only[iI])
   | ((fail_if_success clear T3);revert D2;intro D2;refine fL.st 3 [13] (SZ HO) ?_;have T3:=trivial;try simp only[iI])
   | ((fail_if_success clear T4);refine fL.st 4 [13] (SZ HO) ?_;have T4:=trivial;try simp only[iI])
   | ((fail_if_success clear T6);revert D2 D5;intro D2 D5;refine fL.st 6 [13] (SZ HO) ?_;have T6:=trivial;try simp only[iI])
   | ((fail_if_success clear T8);revert D2 D5 D7;intro D2 D5 D7;refine fL.st 8 [13] (SZ HO) ?_;have T8:=trivial;try simp only[iI])
   | ((fail_if_success clear T9);revert D2 D5 D7;intro D2 D5 D7;refine fL.st 9 [13] (SZ HO) ?_;have T9:=trivial;try simp only[iI])
   | ((fail_if_success clear aW);revert D2 D5 D7;intro D2 D5 D7;refine fL.st 10 [13] (SZ HO) ?_;have aW:=trivial;try simp only[iI])
   | (revert D2 D5 D7 a3 aj;intro D2 D5 D7 a3 aj
      refine fL.sl (fun K hK=>?_)
      go_simp
      refine hK.out _ _ ?_
      clear hK
      try simp only[iI]
      go_wp2_with(fail)
      go_meet
      exact⟨⟨_,rfl⟩,a0,x,y,C0,f0,C1,f1,C2,f2,C3,f3,U6,rfl,hx,hy,e9,hF,fun q hq=>⟨zF q hq,nF q hq,kF q hq⟩,an,HC,HO⟩)
   | (revert D2 D5 D7 a3;intro D2 D5 D7 a3;refine fL.s1 12 (fun K hK=>?_))
   | (revert D2 D5 D7;intro D2 D5 D7;refine fL.s1 11 (fun K hK=>?_))
   | (revert D2 D5 a3;intro D2 D5 a3;refine fL.s1 7 (fun K hK=>?_))
   | (revert D2 D5;intro D2 D5;refine fL.s2 7 11 (fun K hK=>?_) (fun K hK=>?_))
   | (revert D2 a3;intro D2 a3;refine fL.s1 5 (fun K hK=>?_))
   | (revert D2;intro D2;refine fL.s2 5 11 (fun K hK=>?_) (fun K hK=>?_))
   | (revert a3;intro a3;refine fL.s1 2 (fun K hK=>?_))
   | (refine fL.s2 2 11 (fun K hK=>?_) (fun K hK=>?_))
 obtain⟨⟨bb,rfl⟩,a0,x,y,C0,f0,C1,f1,C2,f2,C3,f3,U6,rfl,hx,hy,a1,hF,aY,ba,HC,HO⟩:=hcut;have am:g9∉[k]:=by simpa using aQ
 have e9:=(HO.block g9 (blt ar.out) am).trans ar.out;have b8:=(blt aa.out)
 have b9:=(blt a8.out)
 have e3:=(HO.block g3 b8 (by simpa using b2)).trans aa.out;have e4:=(HO.block g4 b9 (by simpa using b3)).trans a8.out;have hA:=qP.iA HA.out (fun q hq=>HO.block q (qP.jQ HA.out q hq) (by simpa using(ap.out q hq).2));have hP:=(zS.sl 99).iA HP.out (fun q hq=>HO.block q ((zS.sl 99).jQ HP.out q hq) (by simpa using(ay.out q hq).2));have a6:=al.trans HC.fH;have ao:=fk (fun q hq=>(ap.out q hq).1);have ax:=fk (fun q hq=>(ay.out q hq).1);have au:=fk (show ∀ q∈U6,q≠g3/\q≠g4 from fun q hq=>by have:=(aY q hq).1;omega);have ai:g9≠g3:=fh;have a2:a0≠g3:=fh;obtain⟨u0,u1,u2,u3,_,_⟩:=jF e9;obtain⟨u4,u5,u6,u7,u8,u9,u10,_,_⟩:=jb a1;clear e8 z0 z1 z2 zf l8 k8;go_upto_region 5 with(fail);have a4:fy wc wc.drew:=(fy.refl _).drew;refine lO (fun w'=>Vg w' ⟨g9,0,I⟩=F (J B0 (kY p b (zo p b b0 b1)).1.fo.fw.length d0)/\Vg w' ⟨g9,1,I⟩=F (J B1 (kY p b (zo p b b0 b1)).1.fo.fD.length d1)/\Vg w' ⟨g9,2,I⟩=F (J B2 (kY p b (zo p b b0 b1)).1.fo.fm.length d2)/\Vg w' ⟨g9,3,I⟩=F (J B3 (kY p b (zo p b b0 b1)).1.gX.length d3)/\Vg w' ⟨a0,0,I⟩=F (J C0 (zB (zo p b b0 b1) (1+(x:Int)) (1+(y:Int))).1.fo.fw.length f0)/\Vg w' ⟨a0,1,I⟩=F (J C1 (zB (zo p b b0 b1) (1+(x:Int)) (1+(y:Int))).1.fo.fD.length f1)/\Vg w' ⟨a0,2,I⟩=F (J C2 (zB (zo p b b0 b1) (1+(x:Int)) (1+(y:Int))).1.fo.fm.length f2)/\Vg w' ⟨a0,3,I⟩=F (J C3 (zB (zo p b b0 b1) (1+(x:Int)) (1+(y:Int))).1.fu.length f3)/\Vg w' ⟨a0,4,I⟩=F (C Z (zB (zo p b b0 b1) (1+(x:Int)) (1+(y:Int))).1.gM)/\Vg w' ⟨a0,5,I⟩=F (C Z (zB (zo p b b0 b1) (1+(x:Int)) (1+(y:Int))).1.gO)/\Vg w' ⟨a0,6,I⟩=F (C Z (zB (zo p b b0 b1) (1+(x:Int)) (1+(y:Int))).1.fW)) 5 gU ⟨zc u0,zc u1,zc u2,zc u3,zc u4,zc u5,zc u6,zc u7,zc u8,zc u9,zc u10⟩ (fun hH=>?_);have e3:=zj e3 a4;have e4:=zj e4 a4;have hA:=qP.jG hA a4;have hF:=nz.jG hF a4;have hP:=(zS.sl 99).jG hP a4;have a6:=a6.trans a4;clear a4 u0 u1 u2 u3 u4 u5 u6 u7 u8 u9 u10 e9 a1;generalize wc.drew=Wx at e3 e4 hA hF hP a6 hH |-;obtain⟨u0,u1,u2,u3,u4,u5,u6,u7,u8,u9,u10⟩:=id hH;refine .tq 0 [5] hH ?_
 try simp only[iI]
 refine .tq 1 [5] hH ?_
 try simp only[iI]
 refine .tq 2 [5] hH ?_
 try simp only[iI]
 refine .tq 3 [5] hH ?_
 try simp only[iI]
 refine fL.s1 4 (fun K hK=>?_);obtain⟨t0,t1,t2,t3,tf,tl⟩:=jF e3;go_simp;obtain⟨ad,o4⟩:=wj e3 (J B0 (kY p b (zo p b b0 b1)).1.fo.fw.length d0) (J B1 (kY p b (zo p b b0 b1)).1.fo.fD.length d1) (J B2 (kY p b (zo p b b0 b1)).1.fo.fm.length d2) (J B3 (kY p b (zo p b b0 b1)).1.gX.length d3);have l9:g9<Wx.heap.size:=Dq u0;have a9:a0<Wx.heap.size:=Dq u4;have u0:=(o4.cell l9 (by simpa using ai) _).trans u0;have u1:=(o4.cell l9 (by simpa using ai) _).trans u1;have u2:=(o4.cell l9 (by simpa using ai) _).trans u2;have u3:=(o4.cell l9 (by simpa using ai) _).trans u3;have u4:=(o4.cell a9 (by simpa using a2) _).trans u4;have u5:=(o4.cell a9 (by simpa using a2) _).trans u5;have u6:=(o4.cell a9 (by simpa using a2) _).trans u6;have u7:=(o4.cell a9 (by simpa using a2) _).trans u7;have u8:=(o4.cell a9 (by simpa using a2) _).trans u8;have u9:=(o4.cell a9 (by simpa using a2) _).trans u9;have u10:=(o4.cell a9 (by simpa using a2) _).trans u10;have e4:=(o4.block g4 (blt e4) (by simpa using aT)).trans e4;have hA:=qP.iA hA (fun q hq=>o4.block q (qP.jQ hA q hq) (by simpa using(ao.out q hq).1));have hF:=nz.iA hF (fun q hq=>o4.block q (nz.jQ hF q hq) (by simpa using(au.out q hq).1));have hP:=(zS.sl 99).iA hP (fun q hq=>o4.block q ((zS.sl 99).jQ hP q hq) (by simpa using(ax.out q hq).1));have a6:=o4.fH a6 (fun b hb=>by simp only[Vi] at hb;omega);refine hK.out _ _ ⟨u0,u1,u2,u3,u4,u5,u6,u7,u8,u9,u10⟩ ?_;clear hK t0 t1 t2 t3 tf tl o4 l9 a9;generalize Wc (Wc (Wc (Wc Wx _ _) _ _) _ _) _ _=W9 at ad e4 hA hF hP a6 u0 u1 u2 u3 u4 u5 u6 u7 u8 u9 u10 |-
 try simp only[iI]
 obtain⟨t0,t1,t2,t3,t4,t5,t6,tf,tl⟩:=jb e4;refine fL.sl (fun K hK=>?_);go_simp;refine hK.out _ _ ?_;clear hK
 try simp only[iI]
 obtain⟨aX,o5⟩:=qT e4 (J C0 (zB (zo p b b0 b1) (1+(x:Int)) (1+(y:Int))).1.fo.fw.length f0) (J C1 (zB (zo p b b0 b1) (1+(x:Int)) (1+(y:Int))).1.fo.fD.length f1) (J C2 (zB (zo p b b0 b1) (1+(x:Int)) (1+(y:Int))).1.fo.fm.length f2) (J C3 (zB (zo p b b0 b1) (1+(x:Int)) (1+(y:Int))).1.fu.length f3) (C Z (zB (zo p b b0 b1) (1+(x:Int)) (1+(y:Int))).1.gM) (C Z (zB (zo p b b0 b1) (1+(x:Int)) (1+(y:Int))).1.gO) (C Z (zB (zo p b b0 b1) (1+(x:Int)) (1+(y:Int))).1.fW);have ad:=(o5.block g3 (blt ad) (by simpa using aT.symm)).trans ad;have hA:=qP.iA hA (fun q hq=>o5.block q (qP.jQ hA q hq) (by simpa using(ao.out q hq).2));have hF:=nz.iA hF (fun q hq=>o5.block q (nz.jQ hF q hq) (by simpa using(au.out q hq).2));have hP:=(zS.sl 99).iA hP (fun q hq=>o5.block q ((zS.sl 99).jQ hP q hq) (by simpa using(ax.out q hq).2));have a6:=o5.fH a6 (fun b hb=>by simp only[Vi] at hb;omega);obtain⟨r0,r1,r2,r3,_,_⟩:=jF ad;obtain⟨s0,s1,s2,s3,s4,s5,s6,_,_⟩:=jb aX;go_wp2_with(fail);refine Vr (v:=.tuple #[J A p.length c,.agg #[J B0 (kY p b (zo p b b0 b1)).1.fo.fw.length d0,J B1 (kY p b (zo p b b0 b1)).1.fo.fD.length d1,J B2 (kY p b (zo p b b0 b1)).1.fo.fm.length d2,J B3 (kY p b (zo p b b0 b1)).1.gX.length d3],.agg #[J C0 (zB (zo p b b0 b1) (1+(x:Int)) (1+(y:Int))).1.fo.fw.length f0,J C1 (zB (zo p b b0 b1) (1+(x:Int)) (1+(y:Int))).1.fo.fD.length f1,J C2 (zB (zo p b b0 b1) (1+(x:Int)) (1+(y:Int))).1.fo.fm.length f2,J C3 (zB (zo p b b0 b1) (1+(x:Int)) (1+(y:Int))).1.fu.length f3,C Z (zB (zo p b b0 b1) (1+(x:Int)) (1+(y:Int))).1.gM,C Z (zB (zo p b b0 b1) (1+(x:Int)) (1+(y:Int))).1.gO,C Z (zB (zo p b b0 b1) (1+(x:Int)) (1+(y:Int))).1.fW]]) (by simp[VF,results8,go_sem,r0,r1,r2,r3,s0,s1,s2,s3,s4,s5,s6]) rfl ?_;exact⟨p,b,b0,b1,x,y,A,c,B0,d0,B1,d1,B2,d2,B3,d3,C0,f0,C1,f1,C2,f2,C3,f3,rfl,HD.out,aU.out,aJ,aK,hx,hy,Ty.read _ hP,Ty.read _ hA,Ty.read _ hF,a6⟩
end Go.Proofs.YthgbglbaemelhaaGreat
