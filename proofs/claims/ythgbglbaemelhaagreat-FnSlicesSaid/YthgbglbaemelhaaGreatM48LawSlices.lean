/-
  PART.
-/
import Derived.Test.YthgbglbaemelhaaGreatM47LawSlices
set_option linter.unusedVariables false
set_option linter.unusedSimpArgs false
set_option maxRecDepth 100000
set_option maxHeartbeats 8000000
namespace Go.Proofs.YthgbglbaemelhaaGreat
open Value renaming slice->G,int->J,bool->H
open IntKind renaming i64->C,wrap->QP
open Option renaming none->D,some->Z
open Obj renaming cells->F
open Bool renaming false->I,true->M
open Go renaming World->U,results->Rd,Calls->Rh,Addr->Ri,yielded->Su
open World renaming cell?->QL,setCell->RQ,alloc->RR
open Region renaming wanted->Rx,ready->RL,noSelect->Tn,Mode->Ts,free->Ui
open Tryz
open Go.RowKit
variable {S:Q Nat}{W a b w wr:U}{cs:Q Value}{g k n q:Nat}{xs:Q Int}
theorem yC.at {W2:U} {A:X Ri} {c:Nat} {p:Q fv} (h:yC W k A c p)(hs:fw [k] W W2):(zJ.sl 99).R W2 W2.heap.size [G A p.length c] p:=h W2 hs
theorem BV:Static prog 36:=⟨_,func36,rfl,by decide⟩
theorem EE:Static prog 71:=⟨_,func71,rfl,by decide⟩
theorem K5:Static prog 70:=⟨_,func70,rfl,by decide⟩
theorem AH {i:Nat} {v:Value} (h:QL W ⟨g,i,D⟩=Z v):g<W.heap.size:=by
 unfold QL at h;cases hb:W.heap[g]? with
 | none=>simp[hb] at h
 | some o=>exact(blt hb)
theorem ME {e:TypeId} {cs:Array Value} (h:W.heap[g]?=Z (F cs e (0,0)))(hcs:cs.toList=xs.map (J C))(hb:∀ x∈xs,fD x)(hl:n=xs.length/\xs.length<=1000):(zr.sl e).R W W.heap.size [G (Z ⟨g,0,D⟩) n n] xs:=by
 obtain⟨rfl,hl⟩:=hl
 have a0:∀ xs:Q Int,(∀ x∈xs,fD x)->Rows zr W (xs.map (J C)) xs []:=by
  intro xs;induction xs with
  | nil=>intro _;exact⟨rfl,rfl⟩
  | cons x xs ih=>intro hb;exact⟨[J C x],xs.map (J C),[],[],rfl,rfl,⟨rfl,(hb x Tc).1,(hb x Tc).2,rfl⟩,ih fun y hy=>hb y (Sm _ hy)⟩
 exact Ty.read _ (pS (T:=zr) (S:=[]) h (by rw[hcs];exact a0 xs hb) (by omega))
theorem IK {x:Nat} (hx:(x:Int)<9000):∀ a∈([1,100,5000,1+(x:Int)]:Q Int),fD a/\1<=a/\a<=9000:=by
 intro a ha;have:a=1∨a=100∨a=5000∨a=1+(x:Int):=by simpa using ha
 exact⟨⟨by omega,by omega⟩,by omega,by omega⟩
theorem IJ:∀ a∈([20000,60000,1000000]:Q Int),fD a/\20000<=a/\a<=1000000:=by
 intro a ha;have:a=20000∨a=60000∨a=1000000:=by simpa using ha
 exact⟨⟨by omega,by omega⟩,by omega,by omega⟩
theorem kb {o:Obj} (h:fw [k] a b)(e:a.heap[q]?=Z o)(hq:q≠k):b.heap[q]?=Z o:=(h.block q (blt e) (by simpa using hq)).trans e
theorem kO {α:Type} {T:Ty α} {x:α} (h:T.O a cs x S)(ho:fw [k] a b)(hq:∀ q∈S,q≠k):T.O b cs x S:=T.gD h (fun q hs=>ho.block q (T.ja h q hs) (by simpa using hq q hs))
theorem IF {α:Type} {T:Ty α} {x:α} (h:T.O a cs x S):∀ q∈S,q≠a.heap.size:=fun q hq=>UP (T.ja h q hq)
theorem AX (HC:iM w W k)(HO:fw [k] wr W)(o:Obj):ft W (W.alloc o)/\(W.alloc o).heap[W.heap.size]?=Z o/\W.heap.size≠k/\wr.heap.size<=W.heap.size:=⟨(ft.refl _).alloc _,QO _ _,TY HC.lt,HO.size⟩
theorem Hl {cs:Array Value} (HC:iM w W k)(eq:W.heap[q]?=Z (F cs 3 (0,0)))(kq:q≠k)(hcs:cs.toList=xs.map (J C))(hb:∀ x∈xs,fD x)(hl:n=xs.length/\xs.length<=1000)(h0:0<n) :
  Rh prog 71 #[.pointer (Z ⟨k,0,D⟩),G (Z ⟨q,0,D⟩) n n] W fun e W'=>∃ x:Int,e=.returned (J C x)/\x∈xs/\iM w W' k/\fw [k] W W':=
 zqS HC (ME eq hcs hb hl) (fun ad h=>by injection h with h;subst h;exact kq) h0 (by omega)
theorem NS {s:gv} {T:Q Nat} {a b c:Value} {t:TypeId} (e:W.heap[g]?=Z (F #[a,b,c] t (0,0)))(hT:kV.O W cs s T)(nT:∀ q∈T,q≠g)(HC:iM w W k)(HO:fw [k] wr W)(kg:g≠k)(zg:wr.heap.size<=g)(hw:w.heap.size<=g)(u v z:Value) :
  fw [g] W (((W.setCell ⟨g,0,D⟩ u).setCell ⟨g,1,D⟩ v).setCell ⟨g,2,D⟩ z)/\(((W.setCell ⟨g,0,D⟩ u).setCell ⟨g,1,D⟩ v).setCell ⟨g,2,D⟩ z).heap[g]?=Z (F #[u,v,z] t (0,0))/\kV.O (((W.setCell ⟨g,0,D⟩ u).setCell ⟨g,1,D⟩ v).setCell ⟨g,2,D⟩ z) cs s T/\
  iM w (((W.setCell ⟨g,0,D⟩ u).setCell ⟨g,1,D⟩ v).setCell ⟨g,2,D⟩ z) k/\fw [k] wr (((W.setCell ⟨g,0,D⟩ u).setCell ⟨g,1,D⟩ v).setCell ⟨g,2,D⟩ z):=by
 obtain⟨e9,o9⟩:=rB e u v z;exact⟨o9,e9,kO hT o9 nT,HC.only o9 (by simpa using kg.symm) (fun b hb=>by simp only[QN] at hb;omega),HO.then o9 (fun b hb=>.inr (by simp only[QN] at hb;omega))⟩
def P9 (w W:U)(k:Nat)(e:Ending)(W':U):Prop:=∃(A:X Ri)(c:Nat)(p:Q fv)(b:fV)(b0 b1:Int)(A0:X Ri)(c0:Nat)(A1:X Ri)(c1:Nat)(A2:X Ri)(c2:Nat)(T SP:Q Nat),
 e=.returned (.tuple #[G A p.length c,.agg #[J C b.Frames,J C b.Inline,H b.Fold,H b.Split],.agg #[G A0 (zn p b b0 b1).fq.length c0,G A1 (zn p b b0 b1).fu.length c1,G A2 (zn p b b0 b1).Entries.length c2]])/\iz p/\jM b=M/\(1<=b0/\b0<=9000)/\(20000<=b1/\b1<=1000000)/\(zJ.sl 99).O W' [G A p.length c] p SP/\(∀ q∈SP,W.heap.size<=q/\q≠k)/\
 kV.O W' [G A0 (zn p b b0 b1).fq.length c0,G A1 (zn p b b0 b1).fu.length c1,G A2 (zn p b b0 b1).Entries.length c2] (zn p b b0 b1) T/\(∀ q∈T,W.heap.size<=q/\q≠k)/\iM w W' k/\fw [k] W W'
theorem zvZ (hC:iM w W k):Rh prog 33 #[.pointer (Z ⟨k,0,D⟩)] W (P9 w W k):=by
 have aY:=hC.lt;have E4:((W.alloc (F #[J C 0,J C 0,H I,H I] 71)).alloc (F #[G D 0 0,G D 0 0,G D 0 0] 28)).heap[W.heap.size+1]?=Z (F #[G D 0 0,G D 0 0,G D 0 0] 28 (0,0)):=by have h:=QO (W.alloc (F #[J C 0,J C 0,H I,H I] 71)) (F #[G D 0 0,G D 0 0,G D 0 0] 28);rw[Rf] at h;exact h
 have E3:=zj (QO W (F #[J C 0,J C 0,H I,H I] 71)) (show ft _ ((W.alloc (F #[J C 0,J C 0,H I,H I] 71)).alloc (F #[G D 0 0,G D 0 0,G D 0 0] 28)) from gG);have ag:ft W ((W.alloc (F #[J C 0,J C 0,H I,H I] 71)).alloc (F #[G D 0 0,G D 0 0,G D 0 0] 28)):=gG;have aa:=fh E3;have a8:=fh E4;clear E3 E4;go_enter func33,ntmps33;go_upto_region 1 with(fail);obtain⟨g3,ax⟩:∃ q,W.heap.size=q:=⟨_,rfl⟩
 obtain⟨g4,ay⟩:∃ q,g3+1=q:=⟨_,rfl⟩
 rw[ax] at aa a8 |-;rw[ay] at a8 |-;generalize ((W.alloc _).alloc _)=Y at aa a8 ag |-;have aW:=fh ax;have aX:=fh ay;have az:g3≠k:=by omega
 have aA:g4≠k:=by omega
 have aI:g4≠g3:=by omega
 have aP:W.heap.size<=g3:=by omega
 have aQ:W.heap.size<=g4:=by omega
 clear ax ay;have aE:=hC.more ag;go_upto_region 2 with(go_at_call 68;(with_reducible refine(zvS aE).mono ?_);rintro e W1 ⟨A,c,p,SP,rfl,hD,hP,aG,aD,am⟩);go_wp2_with(go_at_call 69;(with_reducible refine(zvj aD).mono ?_);rintro e W2 ⟨b,rfl,hb,av,ai⟩);have ah:ft W2 (W2.alloc (F #[J C b.Frames,J C b.Inline,H b.Fold,H b.Split] 71)):=(ft.refl _).alloc _;have e6:=QO W2 (F #[J C b.Frames,J C b.Inline,H b.Fold,H b.Split] 71);have ao:=(am.trans ai).trans (ah.only [k]);have e3:=(ao.block g3 (blt aa.out) (by simpa using az)).trans aa.out;have e4:=(ao.block g4 (blt a8.out) (by simpa using aA)).trans a8.out;have au:=fh ((ag.only [k]).trans ao);have aF:=av.more ah
 have aw:∀ q∈SP,q≠k/\q≠g3/\q≠g4/\W.heap.size<=q:=fun q hq=>by
  have h1:=aG q hq;have h2:=(blt aa.out)
  have h3:=(blt a8.out)
  have h4:=ag.size;omega
 have hP:=(zJ.sl 99).jg ((zJ.sl 99).gD hP (fun q hq=>ai.block q ((zJ.sl 99).ja hP q hq) (by simpa using(aw q hq).1))) ah;have ae:=fh aw;clear aw aG;have ak:W2.heap.size≠g3:=by have:=(am.trans ai).size;have:=(blt aa.out);omega
 have aR:W2.heap.size≠g4:=by have:=(am.trans ai).size;have:=(blt a8.out);omega
 have a7:W2.heap.size≠k:=TY av.lt;have HD:=fh hD;have HB:=fh hb;obtain⟨g6,aH⟩:∃ q,W2.heap.size=q:=⟨_,rfl⟩
 rw[aH] at e6 ak aR a7 |-;clear ao am ai aD av ag aE;generalize (W2.alloc _)=QB at e6 e3 e4 au aF hP ah |-;have aC:=fh aF;have aJ:=fh (Pk hP (fun hm=>(ae.out k hm).1 rfl));have HP:=fh hP;clear hP;have aa:=fh e3;have a8:=fh e4;have a7:g6∉[k]:=by simpa using a7
 clear aH ah e3 e4 hD hb;obtain⟨x0,x1,x2,x3,xf,a9⟩:=iJ e6;go_loopw [] (fun wr=>wr=QB) (fun _=>0)
 case atStart=>rfl
 subst hrel;go_upto_region 3 with(fail)
 go_cut [7,8] from 13 to 28 (fun v7 v8 wx=>v8=H M/\∃(g7:Nat) (y1 y2:Int) (A0:X Ri) (c0:Nat) (A1:X Ri) (c1:Nat) (A2:X Ri) (c2:Nat) (T:Q Nat),v7=.pointer (Z ⟨g7,0,D⟩)/\(1<=y1/\y1<=9000)/\(20000<=y2/\y2<=1000000)/\
  wx.heap[g7]?=Z (F #[G A0 (zn p b y1 y2).fq.length c0,G A1 (zn p b y1 y2).fu.length c1,G A2 (zn p b y1 y2).Entries.length c2] 28 (0,0))/\kV.O wx [G A0 (zn p b y1 y2).fq.length c0,G A1 (zn p b y1 y2).fu.length c1,G A2 (zn p b y1 y2).Entries.length c2] (zn p b y1 y2) T/\
  (∀ q∈T,wr.heap.size<=q/\q≠g7/\q≠k)/\wr.heap.size<=g7/\iM w wx k/\fw [k] wr wx)
 case first=>
  have S6:∀{W9:U},fw [k] wr W9->QL W9 ⟨g6,0,D⟩=Z (J C b.Frames)/\QL W9 ⟨g6,1,D⟩=Z (J C b.Inline)/\QL W9 ⟨g6,2,D⟩=Z (H b.Fold)/\QL W9 ⟨g6,3,D⟩=Z (H b.Split):=fun h=>⟨(h.cell a9 a7 _).trans x0,(h.cell a9 a7 _).trans x1,(h.cell a9 a7 _).trans x2,(h.cell a9 a7 _).trans x3⟩
  have S7:∀{W8 W9:U} {g:Nat},fw [k] wr W8->fw [g] W8 W9->g6≠g->QL W9 ⟨g6,0,D⟩=Z (J C b.Frames)/\QL W9 ⟨g6,1,D⟩=Z (J C b.Inline)/\QL W9 ⟨g6,2,D⟩=Z (H b.Fold)/\QL W9 ⟨g6,3,D⟩=Z (H b.Split):=by
   intro W8 W9 g h o n;have l:=QS a9 h.size;have n':g6∉[g]:=by simpa using n
   exact⟨(o.cell l n' _).trans (S6 h).1,(o.cell l n' _).trans (S6 h).2.1,(o.cell l n' _).trans (S6 h).2.2.1,(o.cell l n' _).trans (S6 h).2.2.2⟩
  refine jT (fun w'=>QL w' ⟨g6,0,D⟩=Z (J C b.Frames)/\QL w' ⟨g6,1,D⟩=Z (J C b.Inline)/\QL w' ⟨g6,2,D⟩=Z (H b.Fold)/\QL w' ⟨g6,3,D⟩=Z (H b.Split)) 17 (by kernel_rfl) ⟨zc x0,zc x1,zc x2,zc x3⟩ (fun hH=>?_);have a6:ft wr wr.drew:=(ft.refl _).drew;have HC:=aC.out.more a6;have HO:=a6.only [k];clear a6;generalize wr.drew=Wx at HC HO hH |-
  repeat' first
   | (revert hK;intro hK
      first
       | ((fail_if_success clear D4)
          refine sC BV rfl rfl (nO HC 9000 (by decide) (by decide)) ?_ ?_
          ·go_simp
          rintro e Wx ⟨x,rfl,hx,hC,hS⟩
          refine⟨_,rfl,?_⟩
          try have a2:=kb hS a2 ac
          try have a3:=kb hS a3 ad
          try have a1:=kb hS a1 ab
          try have hT:=kO hT hS kT
          have HC:=hC
          have HO:=HO.trans hS
          clear hC hS
          have b1:QP C (1+(x:Int))=1+(x:Int):=iw
          refine hK.out _ _ (S6 HO) ?_
          clear hK
          have D4:=trivial
          try simp only[gO])
       | ((fail_if_success clear D7)
          refine sC EE rfl rfl (Hl HC a2 ac (n:=4) (xs:=[1,100,5000,1+(x:Int)]) rfl (fun a ha=>(IK hx a ha).1) ⟨rfl,by simp⟩ (by decide)) ?_ ?_
          ·go_simp
          rintro e Wx ⟨y1,rfl,hy,hC,hS⟩
          refine⟨_,rfl,?_⟩
          have ap:=(IK hx y1 hy).2
          try have a2:=kb hS a2 ac
          try have a3:=kb hS a3 ad
          try have a1:=kb hS a1 ab
          try have hT:=kO hT hS kT
          have HC:=hC
          have HO:=HO.trans hS
          clear hC hS hy
          refine hK.out _ _ (S6 HO) ?_
          clear hK
          have D7:=trivial
          try simp only[gO])
       | ((fail_if_success clear a4)
          refine sC EE rfl rfl (Hl HC a3 ad (n:=3) (xs:=[20000,60000,1000000]) rfl (fun a ha=>(IJ a ha).1) ⟨rfl,by simp⟩ (by decide)) ?_ ?_
          ·go_simp
          rintro e Wx ⟨y2,rfl,hy,hC,hS⟩
          refine⟨_,rfl,?_⟩
          have aq:=(IJ y2 hy).2
          try have a2:=kb hS a2 ac
          try have a3:=kb hS a3 ad
          try have a1:=kb hS a1 ab
          try have hT:=kO hT hS kT
          have HC:=hC
          have HO:=HO.trans hS
          clear hC hS hy
          refine hK.out _ _ (S6 HO) ?_
          clear hK
          have a4:=trivial
          try simp only[gO])
       | ((fail_if_success clear a5)
          refine sC K5 rfl rfl (zo8 (p:=p) (b:=b) (yC.at aJ.out HO) HD.out HB.out ap aq) ?_ ?_
          ·go_simp
          rintro e Wx ⟨A0,c0,A1,c1,A2,c2,T,rfl,hT,an,hg⟩
          refine⟨_,rfl,?_⟩
          have kT:∀ q∈T,q≠k:=fun q hq=>by have h1:=an q hq;have h2:=HC.lt;omega
          have zT:∀ q∈T,wr.heap.size<=q:=fun q hq=>Rj HO.size (an q hq)
          try have nT:∀ q∈T,q≠g7:=fun q hq=>by have h1:=an q hq;have h2:=(blt a1);omega
          try have a2:=kb (hg.only [k]) a2 ac
          try have a3:=kb (hg.only [k]) a3 ad
          try have a1:=kb (hg.only [k]) a1 ab
          try have hT:=kO hT (hg.only [k]) kT
          have HC:=HC.more hg
          have HO:=HO.trans (hg.only [k])
          clear hg an
          refine hK.out _ _ (S6 HO) ?_
          clear hK
          have a5:=trivial
          try simp only[gO])
       | (go_simp
          first
           | ((fail_if_success clear D6)
              obtain⟨hg,a2,ac,aU⟩:=AX HC HO (F #[J C 1,J C 100,J C 5000,J C (1+(x:Int))] 3)
              refine hK.out _ _ (S6 (HO.trans (hg.only [k]))) ?_
              clear hK
              try have a2:=kb (hg.only [k]) a2 ac
              try have a3:=kb (hg.only [k]) a3 ad
              try have a1:=kb (hg.only [k]) a1 ab
              try have hT:=kO hT (hg.only [k]) kT
              have HC:=HC.more hg
              have HO:=HO.trans (hg.only [k])
              clear hg
              generalize hq:Wx.heap.size=qa at a2 ac aU |-
              clear hq
              obtain⟨Wx,hW⟩:∃ QH,RR Wx (F #[J C 1,J C 100,J C 5000,J C (1+(x:Int))] 3)=QH:=⟨_,rfl⟩
              rw[hW] at a2 HC HO |-
              try rw[hW] at a3
              try rw[hW] at a1
              try rw[hW] at hT
              clear hW
              have D6:=trivial
              try simp only[gO])
           | ((fail_if_success clear D9)
              obtain⟨hg,a3,ad,aV⟩:=AX HC HO (F #[J C 20000,J C 60000,J C 1000000] 3)
              refine hK.out _ _ (S6 (HO.trans (hg.only [k]))) ?_
              clear hK
              try have a2:=kb (hg.only [k]) a2 ac
              try have a3:=kb (hg.only [k]) a3 ad
              try have a1:=kb (hg.only [k]) a1 ab
              try have hT:=kO hT (hg.only [k]) kT
              have HC:=HC.more hg
              have HO:=HO.trans (hg.only [k])
              clear hg
              generalize hq:Wx.heap.size=qb at a3 ad aV |-
              clear hq
              obtain⟨Wx,hW⟩:∃ QH,RR Wx (F #[J C 20000,J C 60000,J C 1000000] 3)=QH:=⟨_,rfl⟩
              rw[hW] at a3 HC HO |-
              try rw[hW] at a2
              try rw[hW] at a1
              try rw[hW] at hT
              clear hW
              have D9:=trivial
              try simp only[gO])
           | ((fail_if_success clear a0)
              obtain⟨hg,a1,ab,al⟩:=AX HC HO (F #[G D 0 0,G D 0 0,G D 0 0] 28)
              refine hK.out _ _ (S6 (HO.trans (hg.only [k]))) ?_
              try have nT:=IF hT
              clear hK
              try have a2:=kb (hg.only [k]) a2 ac
              try have a3:=kb (hg.only [k]) a3 ad
              try have a1:=kb (hg.only [k]) a1 ab
              try have hT:=kO hT (hg.only [k]) kT
              have HC:=HC.more hg
              have HO:=HO.trans (hg.only [k])
              clear hg
              generalize hq:Wx.heap.size=g7 at a1 ab al |-
              try rw[hq] at nT
              clear hq
              obtain⟨Wx,hW⟩:∃ QH,RR Wx (F #[G D 0 0,G D 0 0,G D 0 0] 28)=QH:=⟨_,rfl⟩
              rw[hW] at a1 HC HO |-
              try rw[hW] at a2
              try rw[hW] at a3
              try rw[hW] at hT
              clear hW
              have a0:=trivial
              try simp only[gO])
           | ((fail_if_success clear ar)
              obtain⟨t0,t1,t2,tf,tl⟩:=jc a1
              go_simp
              have hq:=NS a1 hT nT HC HO ab al (Rj aC.out.fx.size al) (G A0 (zn p b y1 y2).fq.length c0) (G A1 (zn p b y1 y2).fu.length c1) (G A2 (zn p b y1 y2).Entries.length c2)
              refine hK.out _ _ (S7 HO hq.1 (UP (QS a9 al))) ?_
              clear hK t0 t1 t2 tf tl a1 hT HC HO
              generalize RQ (RQ (RQ Wx _ _) _ _) _ _=W9 at hq |-
              have ar:=trivial
              try simp only[gO])))
   | ((fail_if_success clear T0);refine fA.st 0 [17] (S6 HO) ?_;have T0:=trivial;try simp only[gO])
   | ((fail_if_success clear T1);refine fA.st 1 [17] (S6 HO) ?_;have T1:=trivial;try simp only[gO])
   | ((fail_if_success clear T2);refine fA.st 2 [17] (S6 HO) ?_;have T2:=trivial;try simp only[gO])
   | ((fail_if_success clear T3);refine fA.st 3 [17] (S6 HO) ?_;have T3:=trivial;try simp only[gO])
   | ((fail_if_success clear T5);revert D4;intro D4;refine fA.st 5 [17] (S6 HO) ?_;have T5:=trivial;try simp only[gO])
   | ((fail_if_success clear T8);refine fA.st 8 [17] (S6 HO) ?_;have T8:=trivial;try simp only[gO])
   | ((fail_if_success clear aK);revert D4 D6 D7 D9 a4 a5;intro D4 D6 D7 D9 a4 a5;refine fA.st 12 [17] (S6 HO) ?_;have aK:=trivial;try simp only[gO])
   | ((fail_if_success clear aL);revert D4 D6 D7 D9 a4 a5;intro D4 D6 D7 D9 a4 a5;refine fA.st 13 [17] (S6 HO) ?_;have aL:=trivial;try simp only[gO])
   | ((fail_if_success clear aM);revert D4 D6 D7 D9 a4 a5;intro D4 D6 D7 D9 a4 a5;refine fA.st 14 [17] (S6 HO) ?_;have aM:=trivial;try simp only[gO])
   | (revert D4 D6 D7 D9 a4 a5 a0 ar;intro D4 D6 D7 D9 a4 a5 a0 ar
      refine fA.sl (fun K hK=>?_)
      go_simp
      refine hK.out _ _ ?_
      clear hK
      try simp only[gO]
      go_wp2_with(fail)
      go_meet
      exact⟨rfl,g7,y1,y2,A0,c0,A1,c1,A2,c2,T,rfl,ap,aq,hq.2.1,hq.2.2.1,fun q hq=>⟨zT q hq,nT q hq,kT q hq⟩,al,hq.2.2.2.1,hq.2.2.2.2⟩)
   | (revert D4 D6 D7 D9 a4 a5 a0;intro D4 D6 D7 D9 a4 a5 a0;refine fA.s1 16 (fun K hK=>?_))
   | (revert D4 D6 D7 D9 a4 a5;intro D4 D6 D7 D9 a4 a5;refine fA.s1 15 (fun K hK=>?_))
   | (revert D4 D6 D7 D9 a4 a0;intro D4 D6 D7 D9 a4 a0;refine fA.s1 11 (fun K hK=>?_))
   | (revert D4 D6 D7 D9 a4;intro D4 D6 D7 D9 a4;refine fA.s2 11 15 (fun K hK=>?_) (fun K hK=>?_))
   | (revert D4 D6 D7 D9 a0;intro D4 D6 D7 D9 a0;refine fA.s1 10 (fun K hK=>?_))
   | (revert D4 D6 D7 D9;intro D4 D6 D7 D9;refine fA.s2 10 15 (fun K hK=>?_) (fun K hK=>?_))
   | (revert D4 D6 D7 a0;intro D4 D6 D7 a0;refine fA.s1 9 (fun K hK=>?_))
   | (revert D4 D6 D9 a0;intro D4 D6 D9 a0;refine fA.s1 7 (fun K hK=>?_))
   | (revert D4 D6 D7;intro D4 D6 D7;refine fA.s2 9 15 (fun K hK=>?_) (fun K hK=>?_))
   | (revert D4 D6 D9;intro D4 D6 D9;refine fA.s2 7 15 (fun K hK=>?_) (fun K hK=>?_))
   | (revert D4 D6 a0;intro D4 D6 a0;refine fA.s2 7 9 (fun K hK=>?_) (fun K hK=>?_))
   | (revert D4 D9 a0;intro D4 D9 a0;refine fA.s1 6 (fun K hK=>?_))
   | (revert D4 D6;intro D4 D6;refine fA.s3 7 9 15 (fun K hK=>?_) (fun K hK=>?_) (fun K hK=>?_))
   | (revert D4 D9;intro D4 D9;refine fA.s2 6 15 (fun K hK=>?_) (fun K hK=>?_))
   | (revert D4 a0;intro D4 a0;refine fA.s2 6 9 (fun K hK=>?_) (fun K hK=>?_))
   | (revert D9 a0;intro D9 a0;refine fA.s1 4 (fun K hK=>?_))
   | (revert D4;intro D4;refine fA.s3 6 9 15 (fun K hK=>?_) (fun K hK=>?_) (fun K hK=>?_))
   | (revert D9;intro D9;refine fA.s2 4 15 (fun K hK=>?_) (fun K hK=>?_))
   | (revert a0;intro a0;refine fA.s2 4 9 (fun K hK=>?_) (fun K hK=>?_))
   | (refine fA.s3 4 9 15 (fun K hK=>?_) (fun K hK=>?_) (fun K hK=>?_))
 obtain⟨rfl,g7,y1,y2,A0,c0,A1,c1,A2,c2,T,rfl,ap,aq,e7,hT,aj,h7,HC,HO⟩:=hcut;have u0:=(HO.cell a9 a7 _).trans x0;have u1:=(HO.cell a9 a7 _).trans x1;have u2:=(HO.cell a9 a7 _).trans x2;have u3:=(HO.cell a9 a7 _).trans x3;obtain⟨u4,u5,u6,_,_⟩:=jc e7;have l3:=(blt aa.out)
 have l4:=(blt a8.out)
 have e3:=(HO.block g3 l3 (by simpa using az)).trans aa.out;have e4:=(HO.block g4 l4 (by simpa using aA)).trans a8.out;have aB:g7≠g3:=by omega
 have aS:∀ q∈T,q≠g3:=fun q hq=>by have:=(aj q hq).1;omega
 have aT:∀ q∈T,q≠g4:=fun q hq=>by have:=(aj q hq).1;omega
 have aZ:w.heap.size<=g3:=Rj hC.fx.size aP;have b0:w.heap.size<=g4:=Rj hC.fx.size aQ;have aO:∀ q∈T,W.heap.size<=q/\q≠k:=fun q hq=>⟨by have:=(aj q hq).1;have:=au.out.size;omega,(aj q hq).2.2⟩;have hP:=(zJ.sl 99).gD HP.out (fun q hq=>HO.block q ((zJ.sl 99).ja HP.out q hq) (by simpa using(ae.out q hq).1));have HO:=au.out.trans HO;clear aj e7 x0 x1 x2 x3 xf;go_upto_region 5 with(fail);have a6:ft wc wc.drew:=(ft.refl _).drew;refine jT (fun w'=>QL w' ⟨g6,0,D⟩=Z (J C b.Frames)/\QL w' ⟨g6,1,D⟩=Z (J C b.Inline)/\QL w' ⟨g6,2,D⟩=Z (H b.Fold)/\QL w' ⟨g6,3,D⟩=Z (H b.Split)/\QL w' ⟨g7,0,D⟩=Z (G A0 (zn p b y1 y2).fq.length c0)/\QL w' ⟨g7,1,D⟩=Z (G A1 (zn p b y1 y2).fu.length c1)/\QL w' ⟨g7,2,D⟩=Z (G A2 (zn p b y1 y2).Entries.length c2)) 5 (by kernel_rfl) ⟨zc u0,zc u1,zc u2,zc u3,zc u4,zc u5,zc u6⟩ (fun hH=>?_);have e3:=zj e3 a6;have e4:=zj e4 a6;have hT:=kV.jg hT a6;have HC:=HC.more a6;have HO:=HO.trans (a6.only [k]);have hP:=(zJ.sl 99).jg hP a6;clear a6 u0 u1 u2 u3 u4 u5 u6;generalize wc.drew=Wx at e3 e4 hT hP HC HO hH |-;obtain⟨u0,u1,u2,u3,u4,u5,u6⟩:=id hH;refine .tq 0 [5] hH ?_
 try simp only[gO]
 refine .tq 1 [5] hH ?_
 try simp only[gO]
 refine .tq 2 [5] hH ?_
 try simp only[gO]
 refine .tq 3 [5] hH ?_
 try simp only[gO]
 refine fA.gQ (i:=4) (by kernel_rfl) rfl (fun K hK=>?_);obtain⟨k0,k1,k2,k3,kf,kl⟩:=iJ e3;go_simp;obtain⟨af,o4⟩:=wb e3 (J C b.Frames) (J C b.Inline) (H b.Fold) (H b.Split);have l6:g6<Wx.heap.size:=(AH u0)
 have l7:g7<Wx.heap.size:=(AH u4)
 have u0:=(o4.cell l6 (by simpa using ak) _).trans u0;have u1:=(o4.cell l6 (by simpa using ak) _).trans u1;have u2:=(o4.cell l6 (by simpa using ak) _).trans u2;have u3:=(o4.cell l6 (by simpa using ak) _).trans u3;have u4:=(o4.cell l7 (by simpa using aB) _).trans u4;have u5:=(o4.cell l7 (by simpa using aB) _).trans u5;have u6:=(o4.cell l7 (by simpa using aB) _).trans u6;have e4:=(o4.block g4 (blt e4) (by simpa using aI)).trans e4;have hT:=kV.gD hT (fun q hq=>o4.block q (kV.ja hT q hq) (by simpa using aS q hq));have hP:=(zJ.sl 99).gD hP (fun q hq=>o4.block q ((zJ.sl 99).ja hP q hq) (by simpa using(ae.out q hq).2.1));have HC:=HC.only o4 (by simpa using az.symm) (fun b hb=>by simp only[QN] at hb;omega);have HO:=HO.then o4 (fun b hb=>.inr (by simp only[QN] at hb;omega));refine hK.out _ _ ⟨u0,u1,u2,u3,u4,u5,u6⟩ ?_;clear hK k0 k1 k2 k3 kf kl o4 l6 l7;generalize RQ (RQ (RQ (RQ Wx _ _) _ _) _ _) _ _=W9 at af e4 hT hP HC HO u0 u1 u2 u3 u4 u5 u6 |-
 try simp only[gO]
 obtain⟨k0,k1,k2,kf,kl⟩:=jc e4;refine fA.last (by kernel_rfl) rfl (by kernel_rfl) (fun K hK=>?_);go_simp;refine hK.out _ _ ?_;clear hK
 try simp only[gO]
 obtain⟨aN,o5⟩:=rB e4 (G A0 (zn p b y1 y2).fq.length c0) (G A1 (zn p b y1 y2).fu.length c1) (G A2 (zn p b y1 y2).Entries.length c2);have af:=(o5.block g3 (blt af) (by simpa using aI.symm)).trans af;have hT:=kV.gD hT (fun q hq=>o5.block q (kV.ja hT q hq) (by simpa using aT q hq));have hP:=(zJ.sl 99).gD hP (fun q hq=>o5.block q ((zJ.sl 99).ja hP q hq) (by simpa using(ae.out q hq).2.2.1));have HC:=HC.only o5 (by simpa using aA.symm) (fun b hb=>by simp only[QN] at hb;omega);have HO:=HO.then o5 (fun b hb=>.inr (by simp only[QN] at hb;omega));obtain⟨r0,r1,r2,r3,_,_⟩:=iJ af;obtain⟨s0,s1,s2,_,_⟩:=jc aN;go_wp2_with(fail);refine QU (v:=.tuple #[G A p.length c,.agg #[J C b.Frames,J C b.Inline,H b.Fold,H b.Split],.agg #[G A0 (zn p b y1 y2).fq.length c0,G A1 (zn p b y1 y2).fu.length c1,G A2 (zn p b y1 y2).Entries.length c2]]) (by simp[Rd,results33,go_sem,r0,r1,r2,r3,s0,s1,s2]) rfl ?_;exact⟨A,c,p,b,y1,y2,A0,c0,A1,c1,A2,c2,T,SP,rfl,HD.out,HB.out,ap,aq,hP,fun q hq=>⟨(ae.out q hq).2.2.2,(ae.out q hq).1⟩,hT,aO,HC,HO⟩
end Go.Proofs.YthgbglbaemelhaaGreat
