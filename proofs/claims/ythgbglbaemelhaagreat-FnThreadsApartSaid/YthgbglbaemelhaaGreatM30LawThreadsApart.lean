/-
  PART.
-/
import Derived.Test.YthgbglbaemelhaaGreatM29LawThreadsApart
set_option linter.unusedVariables false
set_option linter.unusedSimpArgs false
set_option maxRecDepth 100000
set_option maxHeartbeats 8000000
namespace Go.Proofs.YthgbglbaemelhaaGreat
open Value renaming slice->G,int->J,bool->H
open IntKind renaming i64->Z,wrap->Rg
open Option renaming none->C,some->D
open Obj renaming cells->F
open Bool renaming false->I,true->M
open Go renaming World->U,results->Rv,Calls->RD,Addr->RJ,TypeId->R5,yielded->Th
open World renaming cell?->Rb,setCell->R6,alloc->Su
open Region renaming wanted->RV,ready->Sn,noSelect->TZ,Mode->Ub,free->Wu
open Tryz
open Go.RowKit
variable {A:X RJ}{S:Q Nat}{W a b w wr:U}{c g k n q:Nat}{cs:Q Value}{xs:Q Int}
theorem yT.at {W2:U} {p:Q fw} (h:yT W k A c p)(hs:fx [k] W W2):(zQ.sl 99).R W2 W2.heap.size [G A p.length c] p:=h W2 hs
theorem Cb:Static prog 36:=⟨_,func36,rfl,qo⟩
theorem Fq:Static prog 71:=⟨_,func71,rfl,qo⟩
theorem Mh:Static prog 70:=⟨_,func70,rfl,qo⟩
theorem mY {i:Nat} {v:Value} (h:Rb W ⟨g,i,C⟩=D v):g<W.heap.size:=by
 unfold Rb at h;cases hb:W.heap[g]? with
 | none=>simp[hb] at h
 | some o=>exact(blt hb)
theorem N1 {e:R5} {cs:Array Value} (h:W.heap[g]?=D (F cs e (0,0)))(hcs:cs.toList=xs.map (J Z))(hb:∀ x∈xs,fE x)(hl:n=xs.length/\xs.length<=1000):(zr.sl e).R W W.heap.size [G (D ⟨g,0,C⟩) n n] xs:=by
 obtain⟨rfl,hl⟩:=hl
 have a0:∀ xs:Q Int,(∀ x∈xs,fE x)->AC zr W (xs.map (J Z)) xs []:=by
  intro xs;induction xs with
  | nil=>intro _;exact⟨rfl,rfl⟩
  | cons x xs ih=>intro hb;exact⟨[J Z x],xs.map (J Z),[],[],rfl,rfl,⟨rfl,(hb x TA).1,(hb x TA).2,rfl⟩,ih fun y hy=>hb y (SV _ hy)⟩
 exact Ty.read _ (qi (T:=zr) (S:=[]) h (by rw[hcs];exact a0 xs hb) K9)
theorem Jv {x:Nat} (hx:(x:Int)<9000):∀ a∈([1,100,5000,1+(x:Int)]:Q Int),fE a/\1<=a/\a<=9000:=by
 intro a ha;have:a=1∨a=100∨a=5000∨a=1+(x:Int):=by simpa using ha
 exact⟨⟨K9,K9⟩,K9,K9⟩
theorem Ju:∀ a∈([20000,60000,1000000]:Q Int),fE a/\20000<=a/\a<=1000000:=by
 intro a ha;have:a=20000∨a=60000∨a=1000000:=by simpa using ha
 exact⟨⟨K9,K9⟩,K9,K9⟩
theorem kb {o:Obj} (h:fx [k] a b)(e:a.heap[q]?=D o)(hq:q≠k):b.heap[q]?=D o:=(h.block q (blt e) (by simpa using hq)).trans e
theorem kO {α:Type} {T:Ty α} {x:α} (h:T.O a cs x S)(ho:fx [k] a b)(hq:∀ q∈S,q≠k):T.O b cs x S:=T.gD h (fun q hs=>ho.block q (T.iY h q hs) (by simpa using hq q hs))
theorem IZ {α:Type} {T:Ty α} {x:α} (h:T.O a cs x S):∀ q∈S,q≠a.heap.size:=fun q hq=>UW (T.iY h q hq)
theorem Bu (HC:iO w W k)(HO:fx [k] wr W)(o:Obj):fu W (W.alloc o)/\(W.alloc o).heap[W.heap.size]?=D o/\W.heap.size≠k/\wr.heap.size<=W.heap.size:=⟨(fu.refl _).alloc _,Re _ _,Ut HC.lt,HO.size⟩
theorem IN {cs:Array Value} (HC:iO w W k)(eq:W.heap[q]?=D (F cs 3 (0,0)))(kq:q≠k)(hcs:cs.toList=xs.map (J Z))(hb:∀ x∈xs,fE x)(hl:n=xs.length/\xs.length<=1000)(h0:0<n) :
  RD prog 71 #[.pointer (D ⟨k,0,C⟩),G (D ⟨q,0,C⟩) n n] W fun e W'=>∃ x:Int,e=.returned (J Z x)/\x∈xs/\iO w W' k/\fx [k] W W':=
 zrt HC (N1 eq hcs hb hl) (fun ad h=>by injection h with h;subst h;exact kq) h0 K9
theorem NJ {s:gk} {T:Q Nat} {a b c:Value} {t:R5} (e:W.heap[g]?=D (F #[a,b,c] t (0,0)))(hT:kY.O W cs s T)(nT:∀ q∈T,q≠g)(HC:iO w W k)(HO:fx [k] wr W)(kg:g≠k)(zg:wr.heap.size<=g)(hw:w.heap.size<=g)(u v z:Value) :
  fx [g] W (((W.setCell ⟨g,0,C⟩ u).setCell ⟨g,1,C⟩ v).setCell ⟨g,2,C⟩ z)/\(((W.setCell ⟨g,0,C⟩ u).setCell ⟨g,1,C⟩ v).setCell ⟨g,2,C⟩ z).heap[g]?=D (F #[u,v,z] t (0,0))/\kY.O (((W.setCell ⟨g,0,C⟩ u).setCell ⟨g,1,C⟩ v).setCell ⟨g,2,C⟩ z) cs s T/\
  iO w (((W.setCell ⟨g,0,C⟩ u).setCell ⟨g,1,C⟩ v).setCell ⟨g,2,C⟩ z) k/\fx [k] wr (((W.setCell ⟨g,0,C⟩ u).setCell ⟨g,1,C⟩ v).setCell ⟨g,2,C⟩ z):=by
 obtain⟨e9,o9⟩:=rR e u v z;exact⟨o9,e9,kO hT o9 nT,HC.only o9 (by simpa using kg.symm) (fun b hb=>by simp only[Rc] at hb;omega),HO.then o9 (fun b hb=>.inr (by simp only[Rc] at hb;omega))⟩
def PA (w W:U)(k:Nat)(e:Ending)(W':U):Prop:=∃(A:X RJ)(c:Nat)(p:Q fw)(b:fY)(b0 b1:Int)(A0:X RJ)(c0:Nat)(A1:X RJ)(c1:Nat)(A2:X RJ)(c2:Nat)(T SP:Q Nat),
 e=.returned (.tuple #[G A p.length c,.agg #[J Z b.M2,J Z b.IR,H b.Wz,H b.NE],.agg #[G A0 (zn p b b0 b1).fo.length c0,G A1 (zn p b b0 b1).ft.length c1,G A2 (zn p b b0 b1).ii.length c2]])/\iA p/\jP b=M/\(1<=b0/\b0<=9000)/\(20000<=b1/\b1<=1000000)/\(zQ.sl 99).O W' [G A p.length c] p SP/\(∀ q∈SP,W.heap.size<=q/\q≠k)/\
 kY.O W' [G A0 (zn p b b0 b1).fo.length c0,G A1 (zn p b b0 b1).ft.length c1,G A2 (zn p b b0 b1).ii.length c2] (zn p b b0 b1) T/\(∀ q∈T,W.heap.size<=q/\q≠k)/\iO w W' k/\fx [k] W W'
theorem zwA (hC:iO w W k):RD prog 33 #[.pointer (D ⟨k,0,C⟩)] W (PA w W k):=by
 have aY:=hC.lt;have E4:((W.alloc (F #[J Z 0,J Z 0,H I,H I] 71)).alloc (F #[G C 0 0,G C 0 0,G C 0 0] 28)).heap[W.heap.size+1]?=D (F #[G C 0 0,G C 0 0,G C 0 0] 28 (0,0)):=by have h:=Re (W.alloc (F #[J Z 0,J Z 0,H I,H I] 71)) (F #[G C 0 0,G C 0 0,G C 0 0] 28);rw[Rz] at h;exact h
 have E3:=zj (Re W (F #[J Z 0,J Z 0,H I,H I] 71)) (show fu _ ((W.alloc (F #[J Z 0,J Z 0,H I,H I] 71)).alloc (F #[G C 0 0,G C 0 0,G C 0 0] 28)) from gG);have ag:fu W ((W.alloc (F #[J Z 0,J Z 0,H I,H I] 71)).alloc (F #[G C 0 0,G C 0 0,G C 0 0] 28)):=gG;have aa:=fh E3;have a8:=fh E4;clear E3 E4;go_enter func33,ntmps33;go_upto_region 1 with(fail);obtain⟨g3,ax⟩:∃ q,W.heap.size=q:=⟨_,rfl⟩
 obtain⟨g4,ay⟩:∃ q,g3+1=q:=⟨_,rfl⟩
 rw[ax] at aa a8 |-;rw[ay] at a8 |-;generalize ((W.alloc _).alloc _)=Y at aa a8 ag |-;have aW:=fh ax;have aX:=fh ay;have az:g3≠k:=K9;have aA:g4≠k:=K9;have aI:g4≠g3:=K9;have aP:W.heap.size<=g3:=K9;have aQ:W.heap.size<=g4:=K9;clear ax ay;have aE:=hC.more ag;go_upto_region 2 with(go_at_call 68;(with_reducible refine(zwu aE).mono ?_);rintro e W1 ⟨A,c,p,SP,rfl,hD,hP,aG,aD,am⟩);go_wp2_with(go_at_call 69;(with_reducible refine(zvV aD).mono ?_);rintro e W2 ⟨b,rfl,hb,av,ai⟩);have ah:fu W2 (W2.alloc (F #[J Z b.M2,J Z b.IR,H b.Wz,H b.NE] 71)):=(fu.refl _).alloc _;have e6:=Re W2 (F #[J Z b.M2,J Z b.IR,H b.Wz,H b.NE] 71);have ao:=(am.trans ai).trans (ah.only [k]);have e3:=(ao.block g3 (blt aa.out) (by simpa using az)).trans aa.out;have e4:=(ao.block g4 (blt a8.out) (by simpa using aA)).trans a8.out;have au:=fh ((ag.only [k]).trans ao);have aF:=av.more ah
 have aw:∀ q∈SP,q≠k/\q≠g3/\q≠g4/\W.heap.size<=q:=fun q hq=>by
  have h1:=aG q hq;have h2:=(blt aa.out)
  have h3:=(blt a8.out)
  have h4:=ag.size;omega
 have hP:=(zQ.sl 99).jh ((zQ.sl 99).gD hP (fun q hq=>ai.block q ((zQ.sl 99).iY hP q hq) (by simpa using(aw q hq).1))) ah;have ae:=fh aw;clear aw aG;have ak:W2.heap.size≠g3:=by have:=(am.trans ai).size;have:=(blt aa.out);omega
 have aR:W2.heap.size≠g4:=by have:=(am.trans ai).size;have:=(blt a8.out);omega
 have a7:W2.heap.size≠k:=Ut av.lt;have HD:=fh hD;have HB:=fh hb;obtain⟨g6,aH⟩:∃ q,W2.heap.size=q:=⟨_,rfl⟩
 rw[aH] at e6 ak aR a7 |-;clear ao am ai aD av ag aE;generalize (W2.alloc _)=QV at e6 e3 e4 au aF hP ah |-;have aC:=fh aF;have aJ:=fh (Qc hP (fun hm=>(ae.out k hm).1 rfl));have HP:=fh hP;clear hP;have aa:=fh e3;have a8:=fh e4;have a7:g6∉[k]:=by simpa using a7
 clear aH ah e3 e4 hD hb;obtain⟨x0,x1,x2,x3,xf,a9⟩:=iL e6;go_loopw [] (fun wr=>wr=QV) (fun _=>0)
 case atStart=>rfl
 subst hrel;go_upto_region 3 with(fail)
 go_cut [7,8] from 13 to 28 (fun v7 v8 wx=>v8=H M/\∃(g7:Nat) (y1 y2:Int) (A0:X RJ) (c0:Nat) (A1:X RJ) (c1:Nat) (A2:X RJ) (c2:Nat) (T:Q Nat),v7=.pointer (D ⟨g7,0,C⟩)/\(1<=y1/\y1<=9000)/\(20000<=y2/\y2<=1000000)/\
  wx.heap[g7]?=D (F #[G A0 (zn p b y1 y2).fo.length c0,G A1 (zn p b y1 y2).ft.length c1,G A2 (zn p b y1 y2).ii.length c2] 28 (0,0))/\kY.O wx [G A0 (zn p b y1 y2).fo.length c0,G A1 (zn p b y1 y2).ft.length c1,G A2 (zn p b y1 y2).ii.length c2] (zn p b y1 y2) T/\
  (∀ q∈T,wr.heap.size<=q/\q≠g7/\q≠k)/\wr.heap.size<=g7/\iO w wx k/\fx [k] wr wx)
 case first=>
  have S6:∀{W9:U},fx [k] wr W9->Rb W9 ⟨g6,0,C⟩=D (J Z b.M2)/\Rb W9 ⟨g6,1,C⟩=D (J Z b.IR)/\Rb W9 ⟨g6,2,C⟩=D (H b.Wz)/\Rb W9 ⟨g6,3,C⟩=D (H b.NE):=fun h=>⟨(h.cell a9 a7 _).trans x0,(h.cell a9 a7 _).trans x1,(h.cell a9 a7 _).trans x2,(h.cell a9 a7 _).trans x3⟩
  have S7:∀{W8 W9:U} {g:Nat},fx [k] wr W8->fx [g] W8 W9->g6≠g->Rb W9 ⟨g6,0,C⟩=D (J Z b.M2)/\Rb W9 ⟨g6,1,C⟩=D (J Z b.IR)/\Rb W9 ⟨g6,2,C⟩=D (H b.Wz)/\Rb W9 ⟨g6,3,C⟩=D (H b.NE):=by
   intro W8 W9 g h o n;have l:=Ri a9 h.size;have n':g6∉[g]:=by simpa using n
   exact⟨(o.cell l n' _).trans (S6 h).1,(o.cell l n' _).trans (S6 h).2.1,(o.cell l n' _).trans (S6 h).2.2.1,(o.cell l n' _).trans (S6 h).2.2.2⟩
  refine zX (fun w'=>Rb w' ⟨g6,0,C⟩=D (J Z b.M2)/\Rb w' ⟨g6,1,C⟩=D (J Z b.IR)/\Rb w' ⟨g6,2,C⟩=D (H b.Wz)/\Rb w' ⟨g6,3,C⟩=D (H b.NE)) 17 Fs ⟨zc x0,zc x1,zc x2,zc x3⟩ (fun hH=>?_);have a6:fu wr wr.drew:=(fu.refl _).drew;have HC:=aC.out.more a6;have HO:=a6.only [k];clear a6;generalize wr.drew=Wx at HC HO hH |-
  repeat' first
   | (revert hK;intro hK
      first
       | ((fail_if_success clear D4)
          refine rv Cb rfl rfl (nS HC 9000 qo qo) ?_ ?_
          ·go_simp
          rintro e Wx ⟨x,rfl,hx,hC,hS⟩
          refine⟨_,rfl,?_⟩
          try have a2:=kb hS a2 ac
          try have a3:=kb hS a3 ad
          try have a1:=kb hS a1 ab
          try have hT:=kO hT hS kT
          have HC:=hC
          have HO:=HO.trans hS
          clear hC hS
          have b1:Rg Z (1+(x:Int))=1+(x:Int):=iw
          refine hK.out _ _ (S6 HO) ?_
          clear hK
          have D4:=trivial
          try simp only[gJ])
       | ((fail_if_success clear D7)
          refine rv Fq rfl rfl (IN HC a2 ac (n:=4) (xs:=[1,100,5000,1+(x:Int)]) rfl (fun a ha=>(Jv hx a ha).1) ⟨rfl,II⟩ qo) ?_ ?_
          ·go_simp
          rintro e Wx ⟨y1,rfl,hy,hC,hS⟩
          refine⟨_,rfl,?_⟩
          have ap:=(Jv hx y1 hy).2
          try have a2:=kb hS a2 ac
          try have a3:=kb hS a3 ad
          try have a1:=kb hS a1 ab
          try have hT:=kO hT hS kT
          have HC:=hC
          have HO:=HO.trans hS
          clear hC hS hy
          refine hK.out _ _ (S6 HO) ?_
          clear hK
          have D7:=trivial
          try simp only[gJ])
       | ((fail_if_success clear a4)
          refine rv Fq rfl rfl (IN HC a3 ad (n:=3) (xs:=[20000,60000,1000000]) rfl (fun a ha=>(Ju a ha).1) ⟨rfl,II⟩ qo) ?_ ?_
          ·go_simp
          rintro e Wx ⟨y2,rfl,hy,hC,hS⟩
          refine⟨_,rfl,?_⟩
          have aq:=(Ju y2 hy).2
          try have a2:=kb hS a2 ac
          try have a3:=kb hS a3 ad
          try have a1:=kb hS a1 ab
          try have hT:=kO hT hS kT
          have HC:=hC
          have HO:=HO.trans hS
          clear hC hS hy
          refine hK.out _ _ (S6 HO) ?_
          clear hK
          have a4:=trivial
          try simp only[gJ])
       | ((fail_if_success clear a5)
          refine rv Mh rfl rfl (zpq (p:=p) (b:=b) (yT.at aJ.out HO) HD.out HB.out ap aq) ?_ ?_
          ·go_simp
          rintro e Wx ⟨A0,c0,A1,c1,A2,c2,T,rfl,hT,an,hg⟩
          refine⟨_,rfl,?_⟩
          have kT:∀ q∈T,q≠k:=fun q hq=>by have h1:=an q hq;have h2:=HC.lt;omega
          have zT:∀ q∈T,wr.heap.size<=q:=fun q hq=>RG HO.size (an q hq)
          try have nT:∀ q∈T,q≠g7:=fun q hq=>by have h1:=an q hq;have h2:=(blt a1);omega
          try have a2:=kb (hg.only [k]) a2 ac
          try have a3:=kb (hg.only [k]) a3 ad
          try have a1:=kb (hg.only [k]) a1 ab
          try have hT:=kO hT (hg.only [k]) kT
          have HC:=HC.more hg
          have HO:=HO.trans (hg.only [k])
          clear hg an
          refine hK.out _ _ (S6 HO) ?_
          clear hK
          have a5:=trivial
          try simp only[gJ])
       | (go_simp
          first
           | ((fail_if_success clear D6)
              obtain⟨hg,a2,ac,aU⟩:=Bu HC HO (F #[J Z 1,J Z 100,J Z 5000,J Z (1+(x:Int))] 3)
              refine hK.out _ _ (S6 (HO.trans (hg.only [k]))) ?_
              clear hK
              try have a2:=kb (hg.only [k]) a2 ac
              try have a3:=kb (hg.only [k]) a3 ad
              try have a1:=kb (hg.only [k]) a1 ab
              try have hT:=kO hT (hg.only [k]) kT
              have HC:=HC.more hg
              have HO:=HO.trans (hg.only [k])
              clear hg
              generalize hq:Wx.heap.size=qa at a2 ac aU |-
              clear hq
              obtain⟨Wx,hW⟩:∃ Q7,Su Wx (F #[J Z 1,J Z 100,J Z 5000,J Z (1+(x:Int))] 3)=Q7:=⟨_,rfl⟩
              rw[hW] at a2 HC HO |-
              try rw[hW] at a3
              try rw[hW] at a1
              try rw[hW] at hT
              clear hW
              have D6:=trivial
              try simp only[gJ])
           | ((fail_if_success clear D9)
              obtain⟨hg,a3,ad,aV⟩:=Bu HC HO (F #[J Z 20000,J Z 60000,J Z 1000000] 3)
              refine hK.out _ _ (S6 (HO.trans (hg.only [k]))) ?_
              clear hK
              try have a2:=kb (hg.only [k]) a2 ac
              try have a3:=kb (hg.only [k]) a3 ad
              try have a1:=kb (hg.only [k]) a1 ab
              try have hT:=kO hT (hg.only [k]) kT
              have HC:=HC.more hg
              have HO:=HO.trans (hg.only [k])
              clear hg
              generalize hq:Wx.heap.size=qb at a3 ad aV |-
              clear hq
              obtain⟨Wx,hW⟩:∃ Q7,Su Wx (F #[J Z 20000,J Z 60000,J Z 1000000] 3)=Q7:=⟨_,rfl⟩
              rw[hW] at a3 HC HO |-
              try rw[hW] at a2
              try rw[hW] at a1
              try rw[hW] at hT
              clear hW
              have D9:=trivial
              try simp only[gJ])
           | ((fail_if_success clear a0)
              obtain⟨hg,a1,ab,al⟩:=Bu HC HO (F #[G C 0 0,G C 0 0,G C 0 0] 28)
              refine hK.out _ _ (S6 (HO.trans (hg.only [k]))) ?_
              try have nT:=IZ hT
              clear hK
              try have a2:=kb (hg.only [k]) a2 ac
              try have a3:=kb (hg.only [k]) a3 ad
              try have a1:=kb (hg.only [k]) a1 ab
              try have hT:=kO hT (hg.only [k]) kT
              have HC:=HC.more hg
              have HO:=HO.trans (hg.only [k])
              clear hg
              generalize hq:Wx.heap.size=g7 at a1 ab al |-
              try rw[hq] at nT
              clear hq
              obtain⟨Wx,hW⟩:∃ Q7,Su Wx (F #[G C 0 0,G C 0 0,G C 0 0] 28)=Q7:=⟨_,rfl⟩
              rw[hW] at a1 HC HO |-
              try rw[hW] at a2
              try rw[hW] at a3
              try rw[hW] at hT
              clear hW
              have a0:=trivial
              try simp only[gJ])
           | ((fail_if_success clear ar)
              obtain⟨t0,t1,t2,tf,tl⟩:=iS a1
              go_simp
              have hq:=NJ a1 hT nT HC HO ab al (RG aC.out.fy.size al) (G A0 (zn p b y1 y2).fo.length c0) (G A1 (zn p b y1 y2).ft.length c1) (G A2 (zn p b y1 y2).ii.length c2)
              refine hK.out _ _ (S7 HO hq.1 (UW (Ri a9 al))) ?_
              clear hK t0 t1 t2 tf tl a1 hT HC HO
              generalize R6 (R6 (R6 Wx _ _) _ _) _ _=W9 at hq |-
              have ar:=trivial
              try simp only[gJ])))
   | ((fail_if_success clear T0);refine fA.st 0 [17] (S6 HO) ?_;have T0:=trivial;try simp only[gJ])
   | ((fail_if_success clear T1);refine fA.st 1 [17] (S6 HO) ?_;have T1:=trivial;try simp only[gJ])
   | ((fail_if_success clear T2);refine fA.st 2 [17] (S6 HO) ?_;have T2:=trivial;try simp only[gJ])
   | ((fail_if_success clear T3);refine fA.st 3 [17] (S6 HO) ?_;have T3:=trivial;try simp only[gJ])
   | ((fail_if_success clear T5);revert D4;intro D4;refine fA.st 5 [17] (S6 HO) ?_;have T5:=trivial;try simp only[gJ])
   | ((fail_if_success clear T8);refine fA.st 8 [17] (S6 HO) ?_;have T8:=trivial;try simp only[gJ])
   | ((fail_if_success clear aK);revert D4 D6 D7 D9 a4 a5;intro D4 D6 D7 D9 a4 a5;refine fA.st 12 [17] (S6 HO) ?_;have aK:=trivial;try simp only[gJ])
   | ((fail_if_success clear aL);revert D4 D6 D7 D9 a4 a5;intro D4 D6 D7 D9 a4 a5;refine fA.st 13 [17] (S6 HO) ?_;have aL:=trivial;try simp only[gJ])
   | ((fail_if_success clear aM);revert D4 D6 D7 D9 a4 a5;intro D4 D6 D7 D9 a4 a5;refine fA.st 14 [17] (S6 HO) ?_;have aM:=trivial;try simp only[gJ])
   | (revert D4 D6 D7 D9 a4 a5 a0 ar;intro D4 D6 D7 D9 a4 a5 a0 ar
      refine fA.sl (fun K hK=>?_)
      go_simp
      refine hK.out _ _ ?_
      clear hK
      try simp only[gJ]
      go_wp2_with(fail)
      go_meet
      exact⟨rfl,g7,y1,y2,A0,c0,A1,c1,A2,c2,T,rfl,ap,aq,hq.2.1,hq.2.2.1,fun q hq=>⟨zT q hq,nT q hq,kT q hq⟩,al,hq.2.2.2.1,hq.2.2.2.2⟩)
   | (revert D4 D6 D7 D9 a4 a5 a0;intro D4 D6 D7 D9 a4 a5 a0;refine fA.s1 16 (fun K hK=>?_))
   | (revert D4 D6 D7 D9 a4 a5;intro D4 D6 D7 D9 a4 a5;refine fA.s1 15 (fun K hK=>?_))
   | (revert D4 D6 D7 D9 a4 a0;intro D4 D6 D7 D9 a4 a0;refine fA.s1 11 (fun K hK=>?_))
   | (revert D4 D6 D7 D9 a4;intro D4 D6 D7 D9 a4;refine fA.s2 11 15 (fun K hK=>?_) (fun K hK=>?_))
   | (revert D4 D6 D7 D9 a0;intro D4 D6 D7 D9 a0;refine fA.s1 10 (fun K hK=>?_))
   | (revert D4 D6 D7 D9;intro D4 D6 D7 D9;refine fA.s2 10 15 (fun K hK=>?_) (fun K hK=>?_))
   | (revert D4 D6 D7 a0;intro D4 D6 D7 a0;refine fA.s1 9 (fun K hK=>?_))
   | (revert D4 D6 D9 a0;intro D4 D6 D9 a0;refine fA.s1 7 (fun K hK=>?_))
   | (revert D4 D6 D7;intro D4 D6 D7;refine fA.s2 9 15 (fun K hK=>?_) (fun K hK=>?_))
   | (revert D4 D6 D9;intro D4 D6 D9;refine fA.s2 7 15 (fun K hK=>?_) (fun K hK=>?_))
   | (revert D4 D6 a0;intro D4 D6 a0;refine fA.s2 7 9 (fun K hK=>?_) (fun K hK=>?_))
   | (revert D4 D9 a0;intro D4 D9 a0;refine fA.s1 6 (fun K hK=>?_))
   | (revert D4 D6;intro D4 D6;refine fA.s3 7 9 15 (fun K hK=>?_) (fun K hK=>?_) (fun K hK=>?_))
   | (revert D4 D9;intro D4 D9;refine fA.s2 6 15 (fun K hK=>?_) (fun K hK=>?_))
   | (revert D4 a0;intro D4 a0;refine fA.s2 6 9 (fun K hK=>?_) (fun K hK=>?_))
   | (revert D9 a0;intro D9 a0;refine fA.s1 4 (fun K hK=>?_))
   | (revert D4;intro D4;refine fA.s3 6 9 15 (fun K hK=>?_) (fun K hK=>?_) (fun K hK=>?_))
   | (revert D9;intro D9;refine fA.s2 4 15 (fun K hK=>?_) (fun K hK=>?_))
   | (revert a0;intro a0;refine fA.s2 4 9 (fun K hK=>?_) (fun K hK=>?_))
   | (refine fA.s3 4 9 15 (fun K hK=>?_) (fun K hK=>?_) (fun K hK=>?_))
 obtain⟨rfl,g7,y1,y2,A0,c0,A1,c1,A2,c2,T,rfl,ap,aq,e7,hT,aj,h7,HC,HO⟩:=hcut;have u0:=(HO.cell a9 a7 _).trans x0;have u1:=(HO.cell a9 a7 _).trans x1;have u2:=(HO.cell a9 a7 _).trans x2;have u3:=(HO.cell a9 a7 _).trans x3;obtain⟨u4,u5,u6,_,_⟩:=iS e7;have l3:=(blt aa.out)
 have l4:=(blt a8.out)
 have e3:=(HO.block g3 l3 (by simpa using az)).trans aa.out;have e4:=(HO.block g4 l4 (by simpa using aA)).trans a8.out;have aB:g7≠g3:=K9;have aS:∀ q∈T,q≠g3:=fun q hq=>by have:=(aj q hq).1;omega
 have aT:∀ q∈T,q≠g4:=fun q hq=>by have:=(aj q hq).1;omega
 have aZ:w.heap.size<=g3:=RG hC.fy.size aP;have b0:w.heap.size<=g4:=RG hC.fy.size aQ;have aO:∀ q∈T,W.heap.size<=q/\q≠k:=fun q hq=>⟨by have:=(aj q hq).1;have:=au.out.size;omega,(aj q hq).2.2⟩;have hP:=(zQ.sl 99).gD HP.out (fun q hq=>HO.block q ((zQ.sl 99).iY HP.out q hq) (by simpa using(ae.out q hq).1));have HO:=au.out.trans HO;clear aj e7 x0 x1 x2 x3 xf;go_upto_region 5 with(fail);have a6:fu wc wc.drew:=(fu.refl _).drew;refine zX (fun w'=>Rb w' ⟨g6,0,C⟩=D (J Z b.M2)/\Rb w' ⟨g6,1,C⟩=D (J Z b.IR)/\Rb w' ⟨g6,2,C⟩=D (H b.Wz)/\Rb w' ⟨g6,3,C⟩=D (H b.NE)/\Rb w' ⟨g7,0,C⟩=D (G A0 (zn p b y1 y2).fo.length c0)/\Rb w' ⟨g7,1,C⟩=D (G A1 (zn p b y1 y2).ft.length c1)/\Rb w' ⟨g7,2,C⟩=D (G A2 (zn p b y1 y2).ii.length c2)) 5 Fs ⟨zc u0,zc u1,zc u2,zc u3,zc u4,zc u5,zc u6⟩ (fun hH=>?_);have e3:=zj e3 a6;have e4:=zj e4 a6;have hT:=kY.jh hT a6;have HC:=HC.more a6;have HO:=HO.trans (a6.only [k]);have hP:=(zQ.sl 99).jh hP a6;clear a6 u0 u1 u2 u3 u4 u5 u6;generalize wc.drew=Wx at e3 e4 hT hP HC HO hH |-;obtain⟨u0,u1,u2,u3,u4,u5,u6⟩:=id hH;refine .tq 0 [5] hH ?_
 try simp only[gJ]
 refine .tq 1 [5] hH ?_
 try simp only[gJ]
 refine .tq 2 [5] hH ?_
 try simp only[gJ]
 refine .tq 3 [5] hH ?_
 try simp only[gJ]
 refine fA.gL (i:=4) Fs rfl (fun K hK=>?_);obtain⟨k0,k1,k2,k3,kf,kl⟩:=iL e3;go_simp;obtain⟨af,o4⟩:=wM e3 (J Z b.M2) (J Z b.IR) (H b.Wz) (H b.NE);have l6:g6<Wx.heap.size:=(mY u0)
 have l7:g7<Wx.heap.size:=(mY u4)
 have u0:=(o4.cell l6 (by simpa using ak) _).trans u0;have u1:=(o4.cell l6 (by simpa using ak) _).trans u1;have u2:=(o4.cell l6 (by simpa using ak) _).trans u2;have u3:=(o4.cell l6 (by simpa using ak) _).trans u3;have u4:=(o4.cell l7 (by simpa using aB) _).trans u4;have u5:=(o4.cell l7 (by simpa using aB) _).trans u5;have u6:=(o4.cell l7 (by simpa using aB) _).trans u6;have e4:=(o4.block g4 (blt e4) (by simpa using aI)).trans e4;have hT:=kY.gD hT (fun q hq=>o4.block q (kY.iY hT q hq) (by simpa using aS q hq));have hP:=(zQ.sl 99).gD hP (fun q hq=>o4.block q ((zQ.sl 99).iY hP q hq) (by simpa using(ae.out q hq).2.1));have HC:=HC.only o4 (by simpa using az.symm) (fun b hb=>by simp only[Rc] at hb;omega);have HO:=HO.then o4 (fun b hb=>.inr (by simp only[Rc] at hb;omega));refine hK.out _ _ ⟨u0,u1,u2,u3,u4,u5,u6⟩ ?_;clear hK k0 k1 k2 k3 kf kl o4 l6 l7;generalize R6 (R6 (R6 (R6 Wx _ _) _ _) _ _) _ _=W9 at af e4 hT hP HC HO u0 u1 u2 u3 u4 u5 u6 |-
 try simp only[gJ]
 obtain⟨k0,k1,k2,kf,kl⟩:=iS e4;refine fA.last Fs rfl Fs (fun K hK=>?_);go_simp;refine hK.out _ _ ?_;clear hK
 try simp only[gJ]
 obtain⟨aN,o5⟩:=rR e4 (G A0 (zn p b y1 y2).fo.length c0) (G A1 (zn p b y1 y2).ft.length c1) (G A2 (zn p b y1 y2).ii.length c2);have af:=(o5.block g3 (blt af) (by simpa using aI.symm)).trans af;have hT:=kY.gD hT (fun q hq=>o5.block q (kY.iY hT q hq) (by simpa using aT q hq));have hP:=(zQ.sl 99).gD hP (fun q hq=>o5.block q ((zQ.sl 99).iY hP q hq) (by simpa using(ae.out q hq).2.2.1));have HC:=HC.only o5 (by simpa using aA.symm) (fun b hb=>by simp only[Rc] at hb;omega);have HO:=HO.then o5 (fun b hb=>.inr (by simp only[Rc] at hb;omega));obtain⟨r0,r1,r2,r3,_,_⟩:=iL af;obtain⟨s0,s1,s2,_,_⟩:=iS aN;go_wp2_with(fail);refine Rj (v:=.tuple #[G A p.length c,.agg #[J Z b.M2,J Z b.IR,H b.Wz,H b.NE],.agg #[G A0 (zn p b y1 y2).fo.length c0,G A1 (zn p b y1 y2).ft.length c1,G A2 (zn p b y1 y2).ii.length c2]]) (by simp[Rv,results33,go_sem,r0,r1,r2,r3,s0,s1,s2]) rfl ?_;exact⟨A,c,p,b,y1,y2,A0,c0,A1,c1,A2,c2,T,SP,rfl,HD.out,HB.out,ap,aq,hP,fun q hq=>⟨(ae.out q hq).2.2.2,(ae.out q hq).1⟩,hT,aO,HC,HO⟩
theorem Mi:Static prog 35:=⟨_,func35,rfl,qo⟩
def O7 (w:U)(e:Ending)(W':U):Prop:=∃(p:Q fw)(b:fY)(b0 b1:Int)(x y:Nat)(A:X RJ)(c:Nat)(B0:X RJ)(d0:Nat)(B1:X RJ)(d1:Nat)(B2:X RJ)(d2:Nat)(B3:X RJ)(d3:Nat)(C0:X RJ)(f0:Nat)(C1:X RJ)(f1:Nat)(C2:X RJ)(f2:Nat)(C3:X RJ)(f3:Nat),
 e=.returned (.tuple #[G A p.length c,.agg #[G B0 (zW p b (zn p b b0 b1)).1.fk.fo.length d0,G B1 (zW p b (zn p b b0 b1)).1.fk.ft.length d1,G B2 (zW p b (zn p b b0 b1)).1.fk.ii.length d2,G B3 (zW p b (zn p b b0 b1)).1.fV.length d3],.agg #[G C0 (zB (zn p b b0 b1) (1+(x:Int)) (1+(y:Int))).1.fk.fo.length f0,G C1 (zB (zn p b b0 b1) (1+(x:Int)) (1+(y:Int))).1.fk.ft.length f1,G C2 (zB (zn p b b0 b1) (1+(x:Int)) (1+(y:Int))).1.fk.ii.length f2,G C3 (zB (zn p b b0 b1) (1+(x:Int)) (1+(y:Int))).1.fq.length f3,J Z (zB (zn p b b0 b1) (1+(x:Int)) (1+(y:Int))).1.fR,J Z (zB (zn p b b0 b1) (1+(x:Int)) (1+(y:Int))).1.EQ,J Z (zB (zn p b b0 b1) (1+(x:Int)) (1+(y:Int))).1.ws]])/\iA p/\jP b=M/\(1<=b0/\b0<=9000)/\(20000<=b1/\b1<=1000000)/\(x:Int)<3/\(y:Int)<12/\(zQ.sl 99).R W' W'.heap.size [G A p.length c] p/\pd.R W' W'.heap.size [G B0 (zW p b (zn p b b0 b1)).1.fk.fo.length d0,G B1 (zW p b (zn p b b0 b1)).1.fk.ft.length d1,G B2 (zW p b (zn p b b0 b1)).1.fk.ii.length d2,G B3 (zW p b (zn p b b0 b1)).1.fV.length d3] (zW p b (zn p b b0 b1)).1/\nC.R W' W'.heap.size [G C0 (zB (zn p b b0 b1) (1+(x:Int)) (1+(y:Int))).1.fk.fo.length f0,G C1 (zB (zn p b b0 b1) (1+(x:Int)) (1+(y:Int))).1.fk.ft.length f1,G C2 (zB (zn p b b0 b1) (1+(x:Int)) (1+(y:Int))).1.fk.ii.length f2,G C3 (zB (zn p b b0 b1) (1+(x:Int)) (1+(y:Int))).1.fq.length f3,J Z (zB (zn p b b0 b1) (1+(x:Int)) (1+(y:Int))).1.fR,J Z (zB (zn p b b0 b1) (1+(x:Int)) (1+(y:Int))).1.EQ,J Z (zB (zn p b b0 b1) (1+(x:Int)) (1+(y:Int))).1.ws] (zB (zn p b b0 b1) (1+(x:Int)) (1+(y:Int))).1/\fu w W'
theorem ztU {xs:Q UInt8} (hx:(nj.sl 5).R w w.heap.size [G A n c] xs)(hl:xs.length<=1099511627776):RD prog 8 #[G A n c] w (O7 w):=by
 have aa:=fh (zj (Re w (F #[G C 0 0,G C 0 0,G C 0 0,G C 0 0] 31)) (show fu _ ((w.alloc (F #[G C 0 0,G C 0 0,G C 0 0,G C 0 0] 31)).alloc (F #[G C 0 0,G C 0 0,G C 0 0,G C 0 0,J Z 0,J Z 0,J Z 0] 34)) from gG));have a8:Hid (((w.alloc (F #[G C 0 0,G C 0 0,G C 0 0,G C 0 0] 31)).alloc (F #[G C 0 0,G C 0 0,G C 0 0,G C 0 0,J Z 0,J Z 0,J Z 0] 34)).heap[w.heap.size+1]?=D (F #[G C 0 0,G C 0 0,G C 0 0,G C 0 0,J Z 0,J Z 0,J Z 0] 34 (0,0))):=fh (by have h:=Re (w.alloc (F #[G C 0 0,G C 0 0,G C 0 0,G C 0 0] 31)) (F #[G C 0 0,G C 0 0,G C 0 0,G C 0 0,J Z 0,J Z 0,J Z 0] 34);rw[Rz] at h;exact h);have al:fu w ((w.alloc (F #[G C 0 0,G C 0 0,G C 0 0,G C 0 0] 31)).alloc (F #[G C 0 0,G C 0 0,G C 0 0,G C 0 0,J Z 0,J Z 0,J Z 0] 34)):=gG;have aS:=Ty.up _ hx al;go_enter func8,ntmps8;go_upto_region 1 with(fail);obtain⟨g3,aL⟩:∃ q,w.heap.size=q:=⟨_,rfl⟩
 obtain⟨g4,aM⟩:∃ q,g3+1=q:=⟨_,rfl⟩
 rw[aL] at aa a8 |-;rw[aM] at a8 |-;generalize ((w.alloc _).alloc _)=Y at aa a8 al aS |-;have aT:g4≠g3:=K9;have bf:w.heap.size<=g3:=K9;have bg:w.heap.size<=g4:=K9;have bk:=(blt aa.out)
 have bl:=(blt a8.out)
 clear aL aM;go_upto_region 2 with(go_at_call 32;(with_reducible refine(zxR aS hl).mono ?_);rintro e W1 ⟨k,rfl,ak⟩);go_upto_region 3 with(go_at_call 33;(with_reducible refine(zwA ak).mono ?_);rintro e W2 ⟨A,c,p,b,b0,b1,A0,c0,A1,c1,A2,c2,T,SP,rfl,hD,hB,aJ,aK,hP,aG,hT,aI,ag,aZ⟩);have e7:=Re W2 (F #[J Z b.M2,J Z b.IR,H b.Wz,H b.NE] 71);have e8:=Re (W2.alloc (F #[J Z b.M2,J Z b.IR,H b.Wz,H b.NE] 71)) (F #[G A0 (zn p b b0 b1).fo.length c0,G A1 (zn p b b0 b1).ft.length c1,G A2 (zn p b b0 b1).ii.length c2] 28);have e7:=zj e7 (show fu _ ((W2.alloc (F #[J Z b.M2,J Z b.IR,H b.Wz,H b.NE] 71)).alloc (F #[G A0 (zn p b b0 b1).fo.length c0,G A1 (zn p b b0 b1).ft.length c1,G A2 (zn p b b0 b1).ii.length c2] 28)) from gG);rw[Rz] at e8;have ae:fu W2 ((W2.alloc (F #[J Z b.M2,J Z b.IR,H b.Wz,H b.NE] 71)).alloc (F #[G A0 (zn p b b0 b1).fo.length c0,G A1 (zn p b b0 b1).ft.length c1,G A2 (zn p b b0 b1).ii.length c2] 28)):=gG;have b4:W2.heap.size≠k:=Ut ag.lt;have a7:fu Y W2:=ag.fy;have bd:Y.heap.size<=W1.heap.size:=ak.fy.size;obtain⟨g7,aN⟩:∃ q,W2.heap.size=q:=⟨_,rfl⟩
 obtain⟨g8,aO⟩:∃ q,g7+1=q:=⟨_,rfl⟩
 rw[aN] at e7 e8 b4 |-;rw[aO] at e8 |-;have ac:=ag.more ae;have hT:=kY.jh hT ae;have hP:=(zQ.sl 99).jh hP ae;have bj:Y.heap.size<=W2.heap.size:=a7.size;have b5:g8≠k:=by have:=ag.lt;omega
 have a7:=a7.trans ae;clear ae aZ;generalize ((W2.alloc _).alloc _)=V0 at e7 e8 ac hT hP a7 |-;clear aN aO;have HD:=fh hD;have aU:=fh hB;have az:=fh (CV hD.ok hD.short hD.four hB aJ aK);have aR:=Ty.read _ hP;obtain⟨q0,q1,q2⟩:=CK (Ty.read _ hT);have av:=fh (zq1 (p:=p) (b:=b) (s:=zn p b b0 b1) aR (by have:=hD.len;omega) hD.parts hD.names q0 q1 q2 (by have:=az.out;omega));obtain⟨x0,x1,x2,x3,xf,xl⟩:=iL e7;obtain⟨y0,y1,y2,yf,yl⟩:=iS e8;clear aR q0 q1 q2 hD hB;go_upto_region 4 with(go_at_call 34;(with_reducible refine av.out.mono ?_);rintro e v3 ⟨B0,d0,B1,d1,B2,d2,B3,d3,rfl,aD,a5⟩);obtain⟨SA,aA,aB⟩:=aD.has;have e9:=Re v3 (F #[G B0 (zW p b (zn p b b0 b1)).1.fk.fo.length d0,G B1 (zW p b (zn p b b0 b1)).1.fk.ft.length d1,G B2 (zW p b (zn p b b0 b1)).1.fk.ii.length d2,G B3 (zW p b (zn p b b0 b1)).1.fV.length d3] 31);have ab:fu v3 (v3.alloc (F #[G B0 (zW p b (zn p b b0 b1)).1.fk.fo.length d0,G B1 (zW p b (zn p b b0 b1)).1.fk.ft.length d1,G B2 (zW p b (zn p b b0 b1)).1.fk.ii.length d2,G B3 (zW p b (zn p b b0 b1)).1.fV.length d3] 31)):=(fu.refl _).alloc _;have e8:=zj (zj e8 a5) ab;have hA:=pd.jh aA.1 ab;have hT:=kY.jh (kY.jh hT a5) ab;have hP:=(zQ.sl 99).jh ((zQ.sl 99).jh hP a5) ab;have aC:=(ac.more a5).more ab;have a7:=(a7.trans a5).trans ab;have e3:=zj aa.out a7;have e4:=zj a8.out a7;have be:=ak.lo;have b2:g3≠k:=K9;have b3:g4≠k:=K9;have bc:=a5.size;have aQ:v3.heap.size≠k:=Ut (ac.more a5).lt;have b7:Y.heap.size<=v3.heap.size:=(ac.more a5).fy.size
 have ap:=fh (show ∀ q∈SA,(q≠g3/\q≠g4)/\q≠k from fun q hq=>by
  have h1:=aB q hq;have h2:=ac.lt;have h3:=ac.fy.size
  omega)
 have aV:=fh (show ∀ q∈T,(q≠g3/\q≠g4)/\q≠k from fun q hq=>by
  have h1:=aI q hq
  omega)
 have ay:=fh (show ∀ q∈SP,(q≠g3/\q≠g4)/\q≠k from fun q hq=>by
  have h1:=aG q hq
  omega)
 obtain⟨g9,aP⟩:∃ q,v3.heap.size=q:=⟨_,rfl⟩
 rw[aP] at e9 aQ b7 |-;clear aP aA aB aD x0 x1 x2 x3 xf xl y0 y1 y2 yf yl av a5 aI aG ab;generalize (v3.alloc _)=Q7 at e3 e4 e8 e9 hA hT hP aC a7 |-;have aq:=fh aC;have HT:=fh hT;have HP:=fh hP;have HA:=fh hA;have aa:=fh e3;have a8:=fh e4;have ar:=fh e9;clear hT hP hA e3 e4 e9;obtain⟨z0,z1,z2,zf,l8⟩:=iS e8;have k8:g8∉[k]:=by simpa using b5
 go_cut [11,12] from 28 to 39 (fun v v12 wx=>(∃ bb,v12=H bb)/\∃(a0 x y:Nat) (C0:X RJ) (f0:Nat) (C1:X RJ) (f1:Nat) (C2:X RJ) (f2:Nat) (C3:X RJ) (f3:Nat) (QY:Q Nat),v=.pointer (D ⟨a0,0,C⟩)/\(x:Int)<3/\(y:Int)<12/\
  wx.heap[a0]?=D (F #[G C0 (zB (zn p b b0 b1) (1+(x:Int)) (1+(y:Int))).1.fk.fo.length f0,G C1 (zB (zn p b b0 b1) (1+(x:Int)) (1+(y:Int))).1.fk.ft.length f1,G C2 (zB (zn p b b0 b1) (1+(x:Int)) (1+(y:Int))).1.fk.ii.length f2,G C3 (zB (zn p b b0 b1) (1+(x:Int)) (1+(y:Int))).1.fq.length f3,J Z (zB (zn p b b0 b1) (1+(x:Int)) (1+(y:Int))).1.fR,J Z (zB (zn p b b0 b1) (1+(x:Int)) (1+(y:Int))).1.EQ,J Z (zB (zn p b b0 b1) (1+(x:Int)) (1+(y:Int))).1.ws] 34 (0,0))/\nC.O wx [G C0 (zB (zn p b b0 b1) (1+(x:Int)) (1+(y:Int))).1.fk.fo.length f0,G C1 (zB (zn p b b0 b1) (1+(x:Int)) (1+(y:Int))).1.fk.ft.length f1,G C2 (zB (zn p b b0 b1) (1+(x:Int)) (1+(y:Int))).1.fk.ii.length f2,G C3 (zB (zn p b b0 b1) (1+(x:Int)) (1+(y:Int))).1.fq.length f3,J Z (zB (zn p b b0 b1) (1+(x:Int)) (1+(y:Int))).1.fR,J Z (zB (zn p b b0 b1) (1+(x:Int)) (1+(y:Int))).1.EQ,J Z (zB (zn p b b0 b1) (1+(x:Int)) (1+(y:Int))).1.ws] (zB (zn p b b0 b1) (1+(x:Int)) (1+(y:Int))).1 QY/\(∀ q∈QY,Q7.heap.size<=q/\q≠a0/\q≠k)/\Q7.heap.size<=a0/\iO Y wx k/\fx [k] Q7 wx)
 case first=>
  have SZ:∀{W9:U},fx [k] Q7 W9->Rb W9 ⟨g8,0,C⟩=D (G A0 (zn p b b0 b1).fo.length c0)/\Rb W9 ⟨g8,1,C⟩=D (G A1 (zn p b b0 b1).ft.length c1)/\Rb W9 ⟨g8,2,C⟩=D (G A2 (zn p b b0 b1).ii.length c2):=fun h=>⟨(h.cell l8 k8 _).trans z0,(h.cell l8 k8 _).trans z1,(h.cell l8 k8 _).trans z2⟩;refine zX (fun w'=>Rb w' ⟨g8,0,C⟩=D (G A0 (zn p b b0 b1).fo.length c0)/\Rb w' ⟨g8,1,C⟩=D (G A1 (zn p b b0 b1).ft.length c1)/\Rb w' ⟨g8,2,C⟩=D (G A2 (zn p b b0 b1).ii.length c2)) 13 Fs ⟨zc z0,zc z1,zc z2⟩ (fun hH=>?_);have a4:fu Q7 Q7.drew:=(fu.refl _).drew;have HC:=aq.out.more a4;have HO:=a4.only [k];clear a4;generalize Q7.drew=Wx at HC HO hH |-
  repeat' first
   | (revert hK;intro hK
      first
       | ((fail_if_success clear D2)
          refine rv Cb rfl rfl (nS HC 3 qo qo) ?_ ?_
          ·go_simp
          rintro e Wx ⟨x,rfl,hx,hC,hS⟩
          refine⟨_,rfl,?_⟩
          try have a1:=kb hS a1 af
          try have hF:=kO hF hS kF
          have HC:=hC
          have HO:=HO.trans hS
          clear hC hS
          have bh:Rg Z (1+(x:Int))=1+(x:Int):=iw
          refine hK.out _ _ (SZ HO) ?_
          clear hK
          have D2:=trivial
          try simp only[gJ])
       | ((fail_if_success clear D5)
          refine rv Cb rfl rfl (nS HC 12 qo qo) ?_ ?_
          ·go_simp
          rintro e Wx ⟨y,rfl,hy,hC,hS⟩
          refine⟨_,rfl,?_⟩
          try have a1:=kb hS a1 af
          try have hF:=kO hF hS kF
          have HC:=hC
          have HO:=HO.trans hS
          clear hC hS
          have bi:Rg Z (1+(y:Int))=1+(y:Int):=iw
          refine hK.out _ _ (SZ HO) ?_
          clear hK
          have D5:=trivial
          try simp only[gJ])
       | ((fail_if_success clear D7)
          have aH:=kO HT.out HO (fun q hq=>(aV.out q hq).2)
          obtain⟨p0,p1,p2⟩:=CK (Ty.read _ aH)
          have aw:=fh (ztz (th:=1+(x:Int)) (sl:=1+(y:Int)) p0 p1 p2 (by have:=az.out;omega) ⟨K9,K9⟩ ⟨K9,K9⟩)
          clear aH p0 p1 p2
          refine rv Mi rfl rfl aw.out ?_ ?_
          ·go_simp
          rintro e Wx ⟨C0,f0,C1,f1,C2,f2,C3,f3,rfl,aF,hg⟩
          refine⟨_,rfl,?_⟩
          obtain⟨QY,aE,ah⟩:=aF.has
          have hF:=aE.1
          have kF:∀ q∈QY,q≠k:=fun q hq=>by have h1:=ah q hq;have h2:=HC.lt;omega
          have zF:∀ q∈QY,Q7.heap.size<=q:=fun q hq=>RG HO.size (ah q hq)
          try have nF:=DJ ah a1
          try have a1:=kb (hg.only [k]) a1 af
          have HC:=HC.more hg
          have HO:=HO.trans (hg.only [k])
          clear hg ah aE aF aw
          refine hK.out _ _ (SZ HO) ?_
          clear hK
          have D7:=trivial
          try simp only[gJ])
       | (go_simp
          first
           | ((fail_if_success clear a3)
              obtain⟨hg,a1,af,an⟩:=Bu HC HO (F #[G C 0 0,G C 0 0,G C 0 0,G C 0 0,J Z 0,J Z 0,J Z 0] 34)
              refine hK.out _ _ (SZ (HO.trans (hg.only [k]))) ?_
              try have nF:=IZ hF
              clear hK
              try have hF:=kO hF (hg.only [k]) kF
              have HC:=HC.more hg
              have HO:=HO.trans (hg.only [k])
              clear hg
              generalize hq:Wx.heap.size=a0 at a1 af an |-
              try rw[hq] at nF
              clear hq
              obtain⟨Wx,hW⟩:∃ Q7,Su Wx (F #[G C 0 0,G C 0 0,G C 0 0,G C 0 0,J Z 0,J Z 0,J Z 0] 34)=Q7:=⟨_,rfl⟩
              rw[hW] at a1 HC HO |-
              try rw[hW] at hF
              clear hW
              have a3:=trivial
              try simp only[gJ])
           | ((fail_if_success clear aj)
              obtain⟨t0,t1,t2,t3,t4,t5,t6,tf,tl⟩:=zK a1
              go_simp
              obtain⟨e9,o9⟩:=lO a1 (G C0 (zB (zn p b b0 b1) (1+(x:Int)) (1+(y:Int))).1.fk.fo.length f0) (G C1 (zB (zn p b b0 b1) (1+(x:Int)) (1+(y:Int))).1.fk.ft.length f1) (G C2 (zB (zn p b b0 b1) (1+(x:Int)) (1+(y:Int))).1.fk.ii.length f2) (G C3 (zB (zn p b b0 b1) (1+(x:Int)) (1+(y:Int))).1.fq.length f3) (J Z (zB (zn p b b0 b1) (1+(x:Int)) (1+(y:Int))).1.fR) (J Z (zB (zn p b b0 b1) (1+(x:Int)) (1+(y:Int))).1.EQ) (J Z (zB (zn p b b0 b1) (1+(x:Int)) (1+(y:Int))).1.ws)
              have hF:=kO hF o9 nF
              have b6:Y.heap.size<=a0:=RG aq.out.fy.size an
              have HC:=HC.only o9 (by simpa using af.symm) (fun b hb=>by simp only[Rc] at hb;omega)
              have HO:=HO.then o9 (fun b hb=>.inr (by simp only[Rc] at hb;omega))
              refine hK.out _ _ (SZ HO) ?_
              clear hK t0 t1 t2 t3 t4 t5 t6 tf tl a1 o9
              generalize R6 (R6 (R6 (R6 (R6 (R6 (R6 Wx _ _) _ _) _ _) _ _) _ _) _ _) _ _=W9 at e9 hF HC HO |-
              have aj:=trivial
              try simp only[gJ])))
   | ((fail_if_success clear T0);refine fA.st 0 [13] (SZ HO) ?_;have T0:=trivial;try simp only[gJ])
   | ((fail_if_success clear T1);refine fA.st 1 [13] (SZ HO) ?_;have T1:=trivial;try simp only[gJ])
   | ((fail_if_success clear T3);revert D2;intro D2;refine fA.st 3 [13] (SZ HO) ?_;have T3:=trivial;try simp only[gJ])
   | ((fail_if_success clear T4);refine fA.st 4 [13] (SZ HO) ?_;have T4:=trivial;try simp only[gJ])
   | ((fail_if_success clear T6);revert D2 D5;intro D2 D5;refine fA.st 6 [13] (SZ HO) ?_;have T6:=trivial;try simp only[gJ])
   | ((fail_if_success clear T8);revert D2 D5 D7;intro D2 D5 D7;refine fA.st 8 [13] (SZ HO) ?_;have T8:=trivial;try simp only[gJ])
   | ((fail_if_success clear T9);revert D2 D5 D7;intro D2 D5 D7;refine fA.st 9 [13] (SZ HO) ?_;have T9:=trivial;try simp only[gJ])
   | ((fail_if_success clear aW);revert D2 D5 D7;intro D2 D5 D7;refine fA.st 10 [13] (SZ HO) ?_;have aW:=trivial;try simp only[gJ])
   | (revert D2 D5 D7 a3 aj;intro D2 D5 D7 a3 aj
      refine fA.sl (fun K hK=>?_)
      go_simp
      refine hK.out _ _ ?_
      clear hK
      try simp only[gJ]
      go_wp2_with(fail)
      go_meet
      exact⟨⟨_,rfl⟩,a0,x,y,C0,f0,C1,f1,C2,f2,C3,f3,QY,rfl,hx,hy,e9,hF,fun q hq=>⟨zF q hq,nF q hq,kF q hq⟩,an,HC,HO⟩)
   | (revert D2 D5 D7 a3;intro D2 D5 D7 a3;refine fA.s1 12 (fun K hK=>?_))
   | (revert D2 D5 D7;intro D2 D5 D7;refine fA.s1 11 (fun K hK=>?_))
   | (revert D2 D5 a3;intro D2 D5 a3;refine fA.s1 7 (fun K hK=>?_))
   | (revert D2 D5;intro D2 D5;refine fA.s2 7 11 (fun K hK=>?_) (fun K hK=>?_))
   | (revert D2 a3;intro D2 a3;refine fA.s1 5 (fun K hK=>?_))
   | (revert D2;intro D2;refine fA.s2 5 11 (fun K hK=>?_) (fun K hK=>?_))
   | (revert a3;intro a3;refine fA.s1 2 (fun K hK=>?_))
   | (refine fA.s2 2 11 (fun K hK=>?_) (fun K hK=>?_))
 obtain⟨⟨bb,rfl⟩,a0,x,y,C0,f0,C1,f1,C2,f2,C3,f3,QY,rfl,hx,hy,a1,hF,aY,ba,HC,HO⟩:=hcut;have am:g9∉[k]:=by simpa using aQ
 have e9:=(HO.block g9 (blt ar.out) am).trans ar.out;have b8:=(blt aa.out)
 have b9:=(blt a8.out)
 have e3:=(HO.block g3 b8 (by simpa using b2)).trans aa.out;have e4:=(HO.block g4 b9 (by simpa using b3)).trans a8.out;have hA:=pd.gD HA.out (fun q hq=>HO.block q (pd.iY HA.out q hq) (by simpa using(ap.out q hq).2));have hP:=(zQ.sl 99).gD HP.out (fun q hq=>HO.block q ((zQ.sl 99).iY HP.out q hq) (by simpa using(ay.out q hq).2));have a6:=al.trans HC.fy;have ao:=fh (fun q hq=>(ap.out q hq).1);have ax:=fh (fun q hq=>(ay.out q hq).1);have au:=fh (show ∀ q∈QY,q≠g3/\q≠g4 from fun q hq=>by have:=(aY q hq).1;omega);have ai:g9≠g3:=K9;have a2:a0≠g3:=K9;obtain⟨u0,u1,u2,u3,_,_⟩:=iL e9;obtain⟨u4,u5,u6,u7,u8,u9,u10,_,_⟩:=zK a1;clear e8 z0 z1 z2 zf l8 k8;go_upto_region 5 with(fail);have a4:fu wc wc.drew:=(fu.refl _).drew;refine zX (fun w'=>Rb w' ⟨g9,0,C⟩=D (G B0 (zW p b (zn p b b0 b1)).1.fk.fo.length d0)/\Rb w' ⟨g9,1,C⟩=D (G B1 (zW p b (zn p b b0 b1)).1.fk.ft.length d1)/\Rb w' ⟨g9,2,C⟩=D (G B2 (zW p b (zn p b b0 b1)).1.fk.ii.length d2)/\Rb w' ⟨g9,3,C⟩=D (G B3 (zW p b (zn p b b0 b1)).1.fV.length d3)/\Rb w' ⟨a0,0,C⟩=D (G C0 (zB (zn p b b0 b1) (1+(x:Int)) (1+(y:Int))).1.fk.fo.length f0)/\Rb w' ⟨a0,1,C⟩=D (G C1 (zB (zn p b b0 b1) (1+(x:Int)) (1+(y:Int))).1.fk.ft.length f1)/\Rb w' ⟨a0,2,C⟩=D (G C2 (zB (zn p b b0 b1) (1+(x:Int)) (1+(y:Int))).1.fk.ii.length f2)/\Rb w' ⟨a0,3,C⟩=D (G C3 (zB (zn p b b0 b1) (1+(x:Int)) (1+(y:Int))).1.fq.length f3)/\Rb w' ⟨a0,4,C⟩=D (J Z (zB (zn p b b0 b1) (1+(x:Int)) (1+(y:Int))).1.fR)/\Rb w' ⟨a0,5,C⟩=D (J Z (zB (zn p b b0 b1) (1+(x:Int)) (1+(y:Int))).1.EQ)/\Rb w' ⟨a0,6,C⟩=D (J Z (zB (zn p b b0 b1) (1+(x:Int)) (1+(y:Int))).1.ws)) 5 Fs ⟨zc u0,zc u1,zc u2,zc u3,zc u4,zc u5,zc u6,zc u7,zc u8,zc u9,zc u10⟩ (fun hH=>?_);have e3:=zj e3 a4;have e4:=zj e4 a4;have hA:=pd.jh hA a4;have hF:=nC.jh hF a4;have hP:=(zQ.sl 99).jh hP a4;have a6:=a6.trans a4;clear a4 u0 u1 u2 u3 u4 u5 u6 u7 u8 u9 u10 e9 a1;generalize wc.drew=Wx at e3 e4 hA hF hP a6 hH |-;obtain⟨u0,u1,u2,u3,u4,u5,u6,u7,u8,u9,u10⟩:=id hH;refine .tq 0 [5] hH ?_
 try simp only[gJ]
 refine .tq 1 [5] hH ?_
 try simp only[gJ]
 refine .tq 2 [5] hH ?_
 try simp only[gJ]
 refine .tq 3 [5] hH ?_
 try simp only[gJ]
 refine fA.s1 4 (fun K hK=>?_);obtain⟨t0,t1,t2,t3,tf,tl⟩:=iL e3;go_simp;obtain⟨ad,o4⟩:=wM e3 (G B0 (zW p b (zn p b b0 b1)).1.fk.fo.length d0) (G B1 (zW p b (zn p b b0 b1)).1.fk.ft.length d1) (G B2 (zW p b (zn p b b0 b1)).1.fk.ii.length d2) (G B3 (zW p b (zn p b b0 b1)).1.fV.length d3);have l9:g9<Wx.heap.size:=mY u0;have a9:a0<Wx.heap.size:=mY u4;have u0:=(o4.cell l9 (by simpa using ai) _).trans u0;have u1:=(o4.cell l9 (by simpa using ai) _).trans u1;have u2:=(o4.cell l9 (by simpa using ai) _).trans u2;have u3:=(o4.cell l9 (by simpa using ai) _).trans u3;have u4:=(o4.cell a9 (by simpa using a2) _).trans u4;have u5:=(o4.cell a9 (by simpa using a2) _).trans u5;have u6:=(o4.cell a9 (by simpa using a2) _).trans u6;have u7:=(o4.cell a9 (by simpa using a2) _).trans u7;have u8:=(o4.cell a9 (by simpa using a2) _).trans u8;have u9:=(o4.cell a9 (by simpa using a2) _).trans u9;have u10:=(o4.cell a9 (by simpa using a2) _).trans u10;have e4:=(o4.block g4 (blt e4) (by simpa using aT)).trans e4;have hA:=pd.gD hA (fun q hq=>o4.block q (pd.iY hA q hq) (by simpa using(ao.out q hq).1));have hF:=nC.gD hF (fun q hq=>o4.block q (nC.iY hF q hq) (by simpa using(au.out q hq).1));have hP:=(zQ.sl 99).gD hP (fun q hq=>o4.block q ((zQ.sl 99).iY hP q hq) (by simpa using(ax.out q hq).1));have a6:=o4.fy a6 (fun b hb=>by simp only[Rc] at hb;omega);refine hK.out _ _ ⟨u0,u1,u2,u3,u4,u5,u6,u7,u8,u9,u10⟩ ?_;clear hK t0 t1 t2 t3 tf tl o4 l9 a9;generalize R6 (R6 (R6 (R6 Wx _ _) _ _) _ _) _ _=W9 at ad e4 hA hF hP a6 u0 u1 u2 u3 u4 u5 u6 u7 u8 u9 u10 |-
 try simp only[gJ]
 obtain⟨t0,t1,t2,t3,t4,t5,t6,tf,tl⟩:=zK e4;refine fA.sl (fun K hK=>?_);go_simp;refine hK.out _ _ ?_;clear hK
 try simp only[gJ]
 obtain⟨aX,o5⟩:=lO e4 (G C0 (zB (zn p b b0 b1) (1+(x:Int)) (1+(y:Int))).1.fk.fo.length f0) (G C1 (zB (zn p b b0 b1) (1+(x:Int)) (1+(y:Int))).1.fk.ft.length f1) (G C2 (zB (zn p b b0 b1) (1+(x:Int)) (1+(y:Int))).1.fk.ii.length f2) (G C3 (zB (zn p b b0 b1) (1+(x:Int)) (1+(y:Int))).1.fq.length f3) (J Z (zB (zn p b b0 b1) (1+(x:Int)) (1+(y:Int))).1.fR) (J Z (zB (zn p b b0 b1) (1+(x:Int)) (1+(y:Int))).1.EQ) (J Z (zB (zn p b b0 b1) (1+(x:Int)) (1+(y:Int))).1.ws);have ad:=(o5.block g3 (blt ad) (by simpa using aT.symm)).trans ad;have hA:=pd.gD hA (fun q hq=>o5.block q (pd.iY hA q hq) (by simpa using(ao.out q hq).2));have hF:=nC.gD hF (fun q hq=>o5.block q (nC.iY hF q hq) (by simpa using(au.out q hq).2));have hP:=(zQ.sl 99).gD hP (fun q hq=>o5.block q ((zQ.sl 99).iY hP q hq) (by simpa using(ax.out q hq).2));have a6:=o5.fy a6 (fun b hb=>by simp only[Rc] at hb;omega);obtain⟨r0,r1,r2,r3,_,_⟩:=iL ad;obtain⟨s0,s1,s2,s3,s4,s5,s6,_,_⟩:=zK aX;go_wp2_with(fail);refine Rj (v:=.tuple #[G A p.length c,.agg #[G B0 (zW p b (zn p b b0 b1)).1.fk.fo.length d0,G B1 (zW p b (zn p b b0 b1)).1.fk.ft.length d1,G B2 (zW p b (zn p b b0 b1)).1.fk.ii.length d2,G B3 (zW p b (zn p b b0 b1)).1.fV.length d3],.agg #[G C0 (zB (zn p b b0 b1) (1+(x:Int)) (1+(y:Int))).1.fk.fo.length f0,G C1 (zB (zn p b b0 b1) (1+(x:Int)) (1+(y:Int))).1.fk.ft.length f1,G C2 (zB (zn p b b0 b1) (1+(x:Int)) (1+(y:Int))).1.fk.ii.length f2,G C3 (zB (zn p b b0 b1) (1+(x:Int)) (1+(y:Int))).1.fq.length f3,J Z (zB (zn p b b0 b1) (1+(x:Int)) (1+(y:Int))).1.fR,J Z (zB (zn p b b0 b1) (1+(x:Int)) (1+(y:Int))).1.EQ,J Z (zB (zn p b b0 b1) (1+(x:Int)) (1+(y:Int))).1.ws]]) (by simp[Rv,results8,go_sem,r0,r1,r2,r3,s0,s1,s2,s3,s4,s5,s6]) rfl ?_;exact⟨p,b,b0,b1,x,y,A,c,B0,d0,B1,d1,B2,d2,B3,d3,C0,f0,C1,f1,C2,f2,C3,f3,rfl,HD.out,aU.out,aJ,aK,hx,hy,Ty.read _ hP,Ty.read _ hA,Ty.read _ hF,a6⟩
end Go.Proofs.YthgbglbaemelhaaGreat
