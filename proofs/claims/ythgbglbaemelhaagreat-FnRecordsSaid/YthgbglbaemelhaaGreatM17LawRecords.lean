/-
  PART.
-/
import Derived.Test.YthgbglbaemelhaaGreatM16LawRecords
set_option linter.unusedVariables false
set_option linter.unusedSimpArgs false
set_option maxRecDepth 100000
set_option maxHeartbeats 8000000
namespace Go.Proofs.YthgbglbaemelhaaGreat
open Value renaming slice->J,int->C,bool->X
open IntKind renaming i64->Z,wrap->Vl
open Option renaming none->I,some->F
open Obj renaming cells->U
open Bool renaming false->M,true->H
open Go renaming World->V,results->VF,Calls->VK,Addr->VQ,TypeId->Wl,Ending->Z9,yielded->Xb
open World renaming cell?->Vg,setCell->Wc,alloc->WJ
open Region renaming wanted->V6,ready->Wv,noSelect->XV,Mode->XY,free->YI
open Tryz
open Go.RowKit
variable {S:D Nat}{W a b w wr:V}{cs:D Value}{g k n q:Nat}{xs:D Int}
theorem Ci.at {W2:V} {A:N VQ} {c:Nat} {p:D fB} (h:Ci W k A c p)(hs:fG [k] W W2):(zS.sl 99).R W2 W2.heap.size [J A p.length c] p:=h W2 hs
theorem EA:Static prog 36:=⟨_,func36,rfl,gv⟩
theorem Ij:Static prog 71:=⟨_,func71,rfl,gv⟩
theorem ON:Static prog 70:=⟨_,func70,rfl,gv⟩
theorem Dq {i:Nat} {v:Value} (h:Vg W ⟨g,i,I⟩=F v):g<W.heap.size:=by
 unfold Vg at h;cases hb:W.heap[g]? with
 | none=>simp[hb] at h
 | some o=>exact(blt hb)
theorem Rg {e:Wl} {cs:Array Value} (h:W.heap[g]?=F (U cs e (0,0)))(hcs:cs.toList=xs.map (C Z))(hb:∀ x∈xs,fQ x)(hl:n=xs.length/\xs.length<=1000):(zv.sl e).R W W.heap.size [J (F ⟨g,0,I⟩) n n] xs:=by
 obtain⟨rfl,hl⟩:=hl
 have a0:∀ xs:D Int,(∀ x∈xs,fQ x)->gz zv W (xs.map (C Z)) xs []:=by
  intro xs;induction xs with
  | nil=>intro _;exact⟨rfl,rfl⟩
  | cons x xs ih=>intro hb;exact⟨[C Z x],xs.map (C Z),[],[],rfl,rfl,⟨rfl,(hb x WW).1,(hb x WW).2,rfl⟩,ih fun y hy=>hb y (WH _ hy)⟩
 exact Ty.read _ (qG (T:=zv) (S:=[]) h (by rw[hcs];exact a0 xs hb) fh)
theorem Mn {x:Nat} (hx:(x:Int)<9000):∀ a∈([1,100,5000,1+(x:Int)]:D Int),fQ a/\1<=a/\a<=9000:=by
 intro a ha;have:a=1∨a=100∨a=5000∨a=1+(x:Int):=by simpa using ha
 exact⟨⟨fh,fh⟩,fh,fh⟩
theorem Mm:∀ a∈([20000,60000,1000000]:D Int),fQ a/\20000<=a/\a<=1000000:=by
 intro a ha;have:a=20000∨a=60000∨a=1000000:=by simpa using ha
 exact⟨⟨fh,fh⟩,fh,fh⟩
theorem kb {o:Obj} (h:fG [k] a b)(e:a.heap[q]?=F o)(hq:q≠k):b.heap[q]?=F o:=(h.block q (blt e) (by simpa using hq)).trans e
theorem kO {α:Type} {T:Ty α} {x:α} (h:T.O a cs x S)(ho:fG [k] a b)(hq:∀ q∈S,q≠k):T.O b cs x S:=T.iA h (fun q hs=>ho.block q (T.jQ h q hs) (by simpa using hq q hs))
theorem LO {α:Type} {T:Ty α} {x:α} (h:T.O a cs x S):∀ q∈S,q≠a.heap.size:=fun q hq=>YO (T.jQ h q hq)
theorem DC (HC:jI w W k)(HO:fG [k] wr W)(o:Obj):fy W (W.alloc o)/\(W.alloc o).heap[W.heap.size]?=F o/\W.heap.size≠k/\wr.heap.size<=W.heap.size:=⟨(fy.refl _).alloc _,Vj _ _,Yy HC.lt,HO.size⟩
theorem KY {cs:Array Value} (HC:jI w W k)(eq:W.heap[q]?=F (U cs 3 (0,0)))(kq:q≠k)(hcs:cs.toList=xs.map (C Z))(hb:∀ x∈xs,fQ x)(hl:n=xs.length/\xs.length<=1000)(h0:0<n) :
  VK prog 71 #[.pointer (F ⟨k,0,I⟩),J (F ⟨q,0,I⟩) n n] W fun e W'=>∃ x:Int,e=.returned (C Z x)/\x∈xs/\jI w W' k/\fG [k] W W':=
 zta HC (Rg eq hcs hb hl) (fun ad h=>by injection h with h;subst h;exact kq) h0 fh
theorem QY {s:gQ} {T:D Nat} {a b c:Value} {t:Wl} (e:W.heap[g]?=F (U #[a,b,c] t (0,0)))(hT:nh.O W cs s T)(nT:∀ q∈T,q≠g)(HC:jI w W k)(HO:fG [k] wr W)(kg:g≠k)(zg:wr.heap.size<=g)(hw:w.heap.size<=g)(u v z:Value) :
  fG [g] W (((W.setCell ⟨g,0,I⟩ u).setCell ⟨g,1,I⟩ v).setCell ⟨g,2,I⟩ z)/\(((W.setCell ⟨g,0,I⟩ u).setCell ⟨g,1,I⟩ v).setCell ⟨g,2,I⟩ z).heap[g]?=F (U #[u,v,z] t (0,0))/\nh.O (((W.setCell ⟨g,0,I⟩ u).setCell ⟨g,1,I⟩ v).setCell ⟨g,2,I⟩ z) cs s T/\
  jI w (((W.setCell ⟨g,0,I⟩ u).setCell ⟨g,1,I⟩ v).setCell ⟨g,2,I⟩ z) k/\fG [k] wr (((W.setCell ⟨g,0,I⟩ u).setCell ⟨g,1,I⟩ v).setCell ⟨g,2,I⟩ z):=by
 obtain⟨e9,o9⟩:=vA e u v z;exact⟨o9,e9,kO hT o9 nT,HC.only o9 (by simpa using kg.symm) (fun b hb=>by simp only[Vi] at hb;omega),HO.then o9 (fun b hb=>.inr (by simp only[Vi] at hb;omega))⟩
def TE (w W:V)(k:Nat)(e:Z9)(W':V):Prop:=∃(A:N VQ)(c:Nat)(p:D fB)(b:gP)(b0 b1:Int)(A0:N VQ)(c0:Nat)(A1:N VQ)(c1:Nat)(A2:N VQ)(c2:Nat)(T SP:D Nat),
 e=.returned (.tuple #[J A p.length c,.agg #[C Z b.gW,C Z b.gN,X b.iO,X b.ic],.agg #[J A0 (zo p b b0 b1).fw.length c0,J A1 (zo p b b0 b1).fD.length c1,J A2 (zo p b b0 b1).fm.length c2]])/\jo p/\kC b=H/\(1<=b0/\b0<=9000)/\(20000<=b1/\b1<=1000000)/\(zS.sl 99).O W' [J A p.length c] p SP/\(∀ q∈SP,W.heap.size<=q/\q≠k)/\
 nh.O W' [J A0 (zo p b b0 b1).fw.length c0,J A1 (zo p b b0 b1).fD.length c1,J A2 (zo p b b0 b1).fm.length c2] (zo p b b0 b1) T/\(∀ q∈T,W.heap.size<=q/\q≠k)/\jI w W' k/\fG [k] W W'
theorem zyC (hC:jI w W k):VK prog 33 #[.pointer (F ⟨k,0,I⟩)] W (TE w W k):=by
 have aY:=hC.lt;have E4:((W.alloc (U #[C Z 0,C Z 0,X M,X M] 71)).alloc (U #[J I 0 0,J I 0 0,J I 0 0] 28)).heap[W.heap.size+1]?=F (U #[J I 0 0,J I 0 0,J I 0 0] 28 (0,0)):=by have h:=Vj (W.alloc (U #[C Z 0,C Z 0,X M,X M] 71)) (U #[J I 0 0,J I 0 0,J I 0 0] 28);rw[VH] at h;exact h
 have E3:=zj (Vj W (U #[C Z 0,C Z 0,X M,X M] 71)) (show fy _ ((W.alloc (U #[C Z 0,C Z 0,X M,X M] 71)).alloc (U #[J I 0 0,J I 0 0,J I 0 0] 28)) from gG);have ag:fy W ((W.alloc (U #[C Z 0,C Z 0,X M,X M] 71)).alloc (U #[J I 0 0,J I 0 0,J I 0 0] 28)):=gG;have aa:=fk E3;have a8:=fk E4;clear E3 E4;go_enter func33,ntmps33;go_upto_region 1 with(fail);obtain⟨g3,ax⟩:∃ q,W.heap.size=q:=⟨_,rfl⟩
 obtain⟨g4,ay⟩:∃ q,g3+1=q:=⟨_,rfl⟩
 rw[ax] at aa a8 |-;rw[ay] at a8 |-;generalize ((W.alloc _).alloc _)=Y at aa a8 ag |-;have aW:=fk ax;have aX:=fk ay;have az:g3≠k:=fh;have aA:g4≠k:=fh;have aI:g4≠g3:=fh;have aP:W.heap.size<=g3:=fh;have aQ:W.heap.size<=g4:=fh;clear ax ay;have aE:=hC.more ag;go_upto_region 2 with(go_at_call 68;refine(zyv aE).mono ?_;rintro e W1 ⟨A,c,p,SP,rfl,hD,hP,aG,aD,am⟩);go_wp2_with(go_at_call 69;refine(zxU aD).mono ?_;rintro e W2 ⟨b,rfl,hb,av,ai⟩);have ah:fy W2 (W2.alloc (U #[C Z b.gW,C Z b.gN,X b.iO,X b.ic] 71)):=(fy.refl _).alloc _;have e6:=Vj W2 (U #[C Z b.gW,C Z b.gN,X b.iO,X b.ic] 71);have ao:=(am.trans ai).trans (ah.only [k]);have e3:=(ao.block g3 (blt aa.out) (by simpa using az)).trans aa.out;have e4:=(ao.block g4 (blt a8.out) (by simpa using aA)).trans a8.out;have au:=fk ((ag.only [k]).trans ao);have aF:=av.more ah
 have aw:∀ q∈SP,q≠k/\q≠g3/\q≠g4/\W.heap.size<=q:=fun q hq=>by
  have h1:=aG q hq;have h2:=(blt aa.out)
  have h3:=(blt a8.out)
  have h4:=ag.size;omega
 have hP:=(zS.sl 99).jG ((zS.sl 99).iA hP (fun q hq=>ai.block q ((zS.sl 99).jQ hP q hq) (by simpa using(aw q hq).1))) ah;have ae:=fk aw;clear aw aG;have ak:W2.heap.size≠g3:=by have:=(am.trans ai).size;have:=(blt aa.out);omega
 have aR:W2.heap.size≠g4:=by have:=(am.trans ai).size;have:=(blt a8.out);omega
 have a7:W2.heap.size≠k:=Yy av.lt;have HD:=fk hD;have HB:=fk hb;obtain⟨g6,aH⟩:∃ q,W2.heap.size=q:=⟨_,rfl⟩
 rw[aH] at e6 ak aR a7 |-;clear ao am ai aD av ag aE;generalize (W2.alloc _)=U4 at e6 e3 e4 au aF hP ah |-;have aC:=fk aF;have aJ:=fk (Ui hP (fun hm=>(ae.out k hm).1 rfl));have HP:=fk hP;clear hP;have aa:=fk e3;have a8:=fk e4;have a7:g6∉[k]:=by simpa using a7
 clear aH ah e3 e4 hD hb;obtain⟨x0,x1,x2,x3,xf,a9⟩:=jF e6;go_loopw [] (fun wr=>wr=U4) (fun _=>0)
 case atStart=>rfl
 subst hrel;go_upto_region 3 with(fail)
 go_cut [7,8] from 13 to 28 (fun v7 v8 wx=>v8=X H/\∃(g7:Nat) (y1 y2:Int) (A0:N VQ) (c0:Nat) (A1:N VQ) (c1:Nat) (A2:N VQ) (c2:Nat) (T:D Nat),v7=.pointer (F ⟨g7,0,I⟩)/\(1<=y1/\y1<=9000)/\(20000<=y2/\y2<=1000000)/\
  wx.heap[g7]?=F (U #[J A0 (zo p b y1 y2).fw.length c0,J A1 (zo p b y1 y2).fD.length c1,J A2 (zo p b y1 y2).fm.length c2] 28 (0,0))/\nh.O wx [J A0 (zo p b y1 y2).fw.length c0,J A1 (zo p b y1 y2).fD.length c1,J A2 (zo p b y1 y2).fm.length c2] (zo p b y1 y2) T/\
  (∀ q∈T,wr.heap.size<=q/\q≠g7/\q≠k)/\wr.heap.size<=g7/\jI w wx k/\fG [k] wr wx)
 case first=>
  have S6:∀{W9:V},fG [k] wr W9->Vg W9 ⟨g6,0,I⟩=F (C Z b.gW)/\Vg W9 ⟨g6,1,I⟩=F (C Z b.gN)/\Vg W9 ⟨g6,2,I⟩=F (X b.iO)/\Vg W9 ⟨g6,3,I⟩=F (X b.ic):=fun h=>⟨(h.cell a9 a7 _).trans x0,(h.cell a9 a7 _).trans x1,(h.cell a9 a7 _).trans x2,(h.cell a9 a7 _).trans x3⟩
  have S7:∀{W8 W9:V} {g:Nat},fG [k] wr W8->fG [g] W8 W9->g6≠g->Vg W9 ⟨g6,0,I⟩=F (C Z b.gW)/\Vg W9 ⟨g6,1,I⟩=F (C Z b.gN)/\Vg W9 ⟨g6,2,I⟩=F (X b.iO)/\Vg W9 ⟨g6,3,I⟩=F (X b.ic):=by
   intro W8 W9 g h o n;have l:=Vn a9 h.size;have n':g6∉[g]:=by simpa using n
   exact⟨(o.cell l n' _).trans (S6 h).1,(o.cell l n' _).trans (S6 h).2.1,(o.cell l n' _).trans (S6 h).2.2.1,(o.cell l n' _).trans (S6 h).2.2.2⟩
  refine lO (fun w'=>Vg w' ⟨g6,0,I⟩=F (C Z b.gW)/\Vg w' ⟨g6,1,I⟩=F (C Z b.gN)/\Vg w' ⟨g6,2,I⟩=F (X b.iO)/\Vg w' ⟨g6,3,I⟩=F (X b.ic)) 17 gU ⟨zc x0,zc x1,zc x2,zc x3⟩ (fun hH=>?_);have a6:fy wr wr.drew:=(fy.refl _).drew;have HC:=aC.out.more a6;have HO:=a6.only [k];clear a6;generalize wr.drew=Wx at HC HO hH |-
  repeat' first
   | (revert hK;intro hK
      first
       | ((fail_if_success clear D4)
          refine rT EA rfl rfl (pT HC 9000 gv gv) ?_ ?_
          ·go_simp
          rintro e Wx ⟨x,rfl,hx,hC,hS⟩
          refine⟨_,rfl,?_⟩
          try have a2:=kb hS a2 ac
          try have a3:=kb hS a3 ad
          try have a1:=kb hS a1 ab
          try have hT:=kO hT hS kT
          have HC:=hC
          have HO:=HO.trans hS
          clear hC hS
          have b1:Vl Z (1+(x:Int))=1+(x:Int):=iw
          refine hK.out _ _ (S6 HO) ?_
          clear hK
          have D4:=trivial
          try simp only[iI])
       | ((fail_if_success clear D7)
          refine rT Ij rfl rfl (KY HC a2 ac (n:=4) (xs:=[1,100,5000,1+(x:Int)]) rfl (fun a ha=>(Mn hx a ha).1) ⟨rfl,gm⟩ gv) ?_ ?_
          ·go_simp
          rintro e Wx ⟨y1,rfl,hy,hC,hS⟩
          refine⟨_,rfl,?_⟩
          have ap:=(Mn hx y1 hy).2
          try have a2:=kb hS a2 ac
          try have a3:=kb hS a3 ad
          try have a1:=kb hS a1 ab
          try have hT:=kO hT hS kT
          have HC:=hC
          have HO:=HO.trans hS
          clear hC hS hy
          refine hK.out _ _ (S6 HO) ?_
          clear hK
          have D7:=trivial
          try simp only[iI])
       | ((fail_if_success clear a4)
          refine rT Ij rfl rfl (KY HC a3 ad (n:=3) (xs:=[20000,60000,1000000]) rfl (fun a ha=>(Mm a ha).1) ⟨rfl,gm⟩ gv) ?_ ?_
          ·go_simp
          rintro e Wx ⟨y2,rfl,hy,hC,hS⟩
          refine⟨_,rfl,?_⟩
          have aq:=(Mm y2 hy).2
          try have a2:=kb hS a2 ac
          try have a3:=kb hS a3 ad
          try have a1:=kb hS a1 ab
          try have hT:=kO hT hS kT
          have HC:=hC
          have HO:=HO.trans hS
          clear hC hS hy
          refine hK.out _ _ (S6 HO) ?_
          clear hK
          have a4:=trivial
          try simp only[iI])
       | ((fail_if_success clear a5)
          refine rT ON rfl rfl (zq8 (p:=p) (b:=b) (Ci.at aJ.out HO) HD.out HB.out ap aq) ?_ ?_
          ·go_simp
          rintro e Wx ⟨A0,c0,A1,c1,A2,c2,T,rfl,hT,an,hg⟩
          refine⟨_,rfl,?_⟩
          have kT:∀ q∈T,q≠k:=fun q hq=>by have h1:=an q hq;have h2:=HC.lt;omega
          have zT:∀ q∈T,wr.heap.size<=q:=fun q hq=>VL HO.size (an q hq)
          try have nT:∀ q∈T,q≠g7:=fun q hq=>by have h1:=an q hq;have h2:=(blt a1);omega
          try have a2:=kb (hg.only [k]) a2 ac
          try have a3:=kb (hg.only [k]) a3 ad
          try have a1:=kb (hg.only [k]) a1 ab
          try have hT:=kO hT (hg.only [k]) kT
          have HC:=HC.more hg
          have HO:=HO.trans (hg.only [k])
          clear hg an
          refine hK.out _ _ (S6 HO) ?_
          clear hK
          have a5:=trivial
          try simp only[iI])
       | (go_simp
          first
           | ((fail_if_success clear D6)
              obtain⟨hg,a2,ac,aU⟩:=DC HC HO (U #[C Z 1,C Z 100,C Z 5000,C Z (1+(x:Int))] 3)
              refine hK.out _ _ (S6 (HO.trans (hg.only [k]))) ?_
              clear hK
              try have a2:=kb (hg.only [k]) a2 ac
              try have a3:=kb (hg.only [k]) a3 ad
              try have a1:=kb (hg.only [k]) a1 ab
              try have hT:=kO hT (hg.only [k]) kT
              have HC:=HC.more hg
              have HO:=HO.trans (hg.only [k])
              clear hg
              generalize hq:Wx.heap.size=qa at a2 ac aU |-
              clear hq
              obtain⟨Wx,hW⟩:∃ Va,WJ Wx (U #[C Z 1,C Z 100,C Z 5000,C Z (1+(x:Int))] 3)=Va:=⟨_,rfl⟩
              rw[hW] at a2 HC HO |-
              try rw[hW] at a3
              try rw[hW] at a1
              try rw[hW] at hT
              clear hW
              have D6:=trivial
              try simp only[iI])
           | ((fail_if_success clear D9)
              obtain⟨hg,a3,ad,aV⟩:=DC HC HO (U #[C Z 20000,C Z 60000,C Z 1000000] 3)
              refine hK.out _ _ (S6 (HO.trans (hg.only [k]))) ?_
              clear hK
              try have a2:=kb (hg.only [k]) a2 ac
              try have a3:=kb (hg.only [k]) a3 ad
              try have a1:=kb (hg.only [k]) a1 ab
              try have hT:=kO hT (hg.only [k]) kT
              have HC:=HC.more hg
              have HO:=HO.trans (hg.only [k])
              clear hg
              generalize hq:Wx.heap.size=qb at a3 ad aV |-
              clear hq
              obtain⟨Wx,hW⟩:∃ Va,WJ Wx (U #[C Z 20000,C Z 60000,C Z 1000000] 3)=Va:=⟨_,rfl⟩
              rw[hW] at a3 HC HO |-
              try rw[hW] at a2
              try rw[hW] at a1
              try rw[hW] at hT
              clear hW
              have D9:=trivial
              try simp only[iI])
           | ((fail_if_success clear a0)
              obtain⟨hg,a1,ab,al⟩:=DC HC HO (U #[J I 0 0,J I 0 0,J I 0 0] 28)
              refine hK.out _ _ (S6 (HO.trans (hg.only [k]))) ?_
              try have nT:=LO hT
              clear hK
              try have a2:=kb (hg.only [k]) a2 ac
              try have a3:=kb (hg.only [k]) a3 ad
              try have a1:=kb (hg.only [k]) a1 ab
              try have hT:=kO hT (hg.only [k]) kT
              have HC:=HC.more hg
              have HO:=HO.trans (hg.only [k])
              clear hg
              generalize hq:Wx.heap.size=g7 at a1 ab al |-
              try rw[hq] at nT
              clear hq
              obtain⟨Wx,hW⟩:∃ Va,WJ Wx (U #[J I 0 0,J I 0 0,J I 0 0] 28)=Va:=⟨_,rfl⟩
              rw[hW] at a1 HC HO |-
              try rw[hW] at a2
              try rw[hW] at a3
              try rw[hW] at hT
              clear hW
              have a0:=trivial
              try simp only[iI])
           | ((fail_if_success clear ar)
              obtain⟨t0,t1,t2,tf,tl⟩:=kL a1
              go_simp
              have hq:=QY a1 hT nT HC HO ab al (VL aC.out.fH.size al) (J A0 (zo p b y1 y2).fw.length c0) (J A1 (zo p b y1 y2).fD.length c1) (J A2 (zo p b y1 y2).fm.length c2)
              refine hK.out _ _ (S7 HO hq.1 (YO (Vn a9 al))) ?_
              clear hK t0 t1 t2 tf tl a1 hT HC HO
              generalize Wc (Wc (Wc Wx _ _) _ _) _ _=W9 at hq |-
              have ar:=trivial
              try simp only[iI])))
   | ((fail_if_success clear T0);refine fL.st 0 [17] (S6 HO) ?_;have T0:=trivial;try simp only[iI])
   | ((fail_if_success clear T1);refine fL.st 1 [17] (S6 HO) ?_;have T1:=trivial;try simp only[iI])
   | ((fail_if_success clear T2);refine fL.st 2 [17] (S6 HO) ?_;have T2:=trivial;try simp only[iI])
   | ((fail_if_success clear T3);refine fL.st 3 [17] (S6 HO) ?_;have T3:=trivial;try simp only[iI])
   | ((fail_if_success clear T5);revert D4;intro D4;refine fL.st 5 [17] (S6 HO) ?_;have T5:=trivial;try simp only[iI])
   | ((fail_if_success clear T8);refine fL.st 8 [17] (S6 HO) ?_;have T8:=trivial;try simp only[iI])
   | ((fail_if_success clear aK);revert D4 D6 D7 D9 a4 a5;intro D4 D6 D7 D9 a4 a5;refine fL.st 12 [17] (S6 HO) ?_;have aK:=trivial;try simp only[iI])
   | ((fail_if_success clear aL);revert D4 D6 D7 D9 a4 a5;intro D4 D6 D7 D9 a4 a5;refine fL.st 13 [17] (S6 HO) ?_;have aL:=trivial;try simp only[iI])
   | ((fail_if_success clear aM);revert D4 D6 D7 D9 a4 a5;intro D4 D6 D7 D9 a4 a5;refine fL.st 14 [17] (S6 HO) ?_;have aM:=trivial;try simp only[iI])
   | (revert D4 D6 D7 D9 a4 a5 a0 ar;intro D4 D6 D7 D9 a4 a5 a0 ar
      refine fL.sl (fun K hK=>?_)
      go_simp
      refine hK.out _ _ ?_
      clear hK
      try simp only[iI]
      go_wp2_with(fail)
      go_meet
      exact⟨rfl,g7,y1,y2,A0,c0,A1,c1,A2,c2,T,rfl,ap,aq,hq.2.1,hq.2.2.1,fun q hq=>⟨zT q hq,nT q hq,kT q hq⟩,al,hq.2.2.2.1,hq.2.2.2.2⟩)
   | (revert D4 D6 D7 D9 a4 a5 a0;intro D4 D6 D7 D9 a4 a5 a0;refine fL.s1 16 (fun K hK=>?_))
   | (revert D4 D6 D7 D9 a4 a5;intro D4 D6 D7 D9 a4 a5;refine fL.s1 15 (fun K hK=>?_))
   | (revert D4 D6 D7 D9 a4 a0;intro D4 D6 D7 D9 a4 a0;refine fL.s1 11 (fun K hK=>?_))
   | (revert D4 D6 D7 D9 a4;intro D4 D6 D7 D9 a4;refine fL.s2 11 15 (fun K hK=>?_) (fun K hK=>?_))
   | (revert D4 D6 D7 D9 a0;intro D4 D6 D7 D9 a0;refine fL.s1 10 (fun K hK=>?_))
   | (revert D4 D6 D7 D9;intro D4 D6 D7 D9;refine fL.s2 10 15 (fun K hK=>?_) (fun K hK=>?_))
   | (revert D4 D6 D7 a0;intro D4 D6 D7 a0;refine fL.s1 9 (fun K hK=>?_))
   | (revert D4 D6 D9 a0;intro D4 D6 D9 a0;refine fL.s1 7 (fun K hK=>?_))
   | (revert D4 D6 D7;intro D4 D6 D7;refine fL.s2 9 15 (fun K hK=>?_) (fun K hK=>?_))
   | (revert D4 D6 D9;intro D4 D6 D9;refine fL.s2 7 15 (fun K hK=>?_) (fun K hK=>?_))
   | (revert D4 D6 a0;intro D4 D6 a0;refine fL.s2 7 9 (fun K hK=>?_) (fun K hK=>?_))
   | (revert D4 D9 a0;intro D4 D9 a0;refine fL.s1 6 (fun K hK=>?_))
   | (revert D4 D6;intro D4 D6;refine fL.s3 7 9 15 (fun K hK=>?_) (fun K hK=>?_) (fun K hK=>?_))
   | (revert D4 D9;intro D4 D9;refine fL.s2 6 15 (fun K hK=>?_) (fun K hK=>?_))
   | (revert D4 a0;intro D4 a0;refine fL.s2 6 9 (fun K hK=>?_) (fun K hK=>?_))
   | (revert D9 a0;intro D9 a0;refine fL.s1 4 (fun K hK=>?_))
   | (revert D4;intro D4;refine fL.s3 6 9 15 (fun K hK=>?_) (fun K hK=>?_) (fun K hK=>?_))
   | (revert D9;intro D9;refine fL.s2 4 15 (fun K hK=>?_) (fun K hK=>?_))
   | (revert a0;intro a0;refine fL.s2 4 9 (fun K hK=>?_) (fun K hK=>?_))
   | (refine fL.s3 4 9 15 (fun K hK=>?_) (fun K hK=>?_) (fun K hK=>?_))
 obtain⟨rfl,g7,y1,y2,A0,c0,A1,c1,A2,c2,T,rfl,ap,aq,e7,hT,aj,h7,HC,HO⟩:=hcut;have u0:=(HO.cell a9 a7 _).trans x0;have u1:=(HO.cell a9 a7 _).trans x1;have u2:=(HO.cell a9 a7 _).trans x2;have u3:=(HO.cell a9 a7 _).trans x3;obtain⟨u4,u5,u6,_,_⟩:=kL e7;have l3:=(blt aa.out)
 have l4:=(blt a8.out)
 have e3:=(HO.block g3 l3 (by simpa using az)).trans aa.out;have e4:=(HO.block g4 l4 (by simpa using aA)).trans a8.out;have aB:g7≠g3:=fh;have aS:∀ q∈T,q≠g3:=fun q hq=>by have:=(aj q hq).1;omega
 have aT:∀ q∈T,q≠g4:=fun q hq=>by have:=(aj q hq).1;omega
 have aZ:w.heap.size<=g3:=VL hC.fH.size aP;have b0:w.heap.size<=g4:=VL hC.fH.size aQ;have aO:∀ q∈T,W.heap.size<=q/\q≠k:=fun q hq=>⟨by have:=(aj q hq).1;have:=au.out.size;omega,(aj q hq).2.2⟩;have hP:=(zS.sl 99).iA HP.out (fun q hq=>HO.block q ((zS.sl 99).jQ HP.out q hq) (by simpa using(ae.out q hq).1));have HO:=au.out.trans HO;clear aj e7 x0 x1 x2 x3 xf;go_upto_region 5 with(fail);have a6:fy wc wc.drew:=(fy.refl _).drew;refine lO (fun w'=>Vg w' ⟨g6,0,I⟩=F (C Z b.gW)/\Vg w' ⟨g6,1,I⟩=F (C Z b.gN)/\Vg w' ⟨g6,2,I⟩=F (X b.iO)/\Vg w' ⟨g6,3,I⟩=F (X b.ic)/\Vg w' ⟨g7,0,I⟩=F (J A0 (zo p b y1 y2).fw.length c0)/\Vg w' ⟨g7,1,I⟩=F (J A1 (zo p b y1 y2).fD.length c1)/\Vg w' ⟨g7,2,I⟩=F (J A2 (zo p b y1 y2).fm.length c2)) 5 gU ⟨zc u0,zc u1,zc u2,zc u3,zc u4,zc u5,zc u6⟩ (fun hH=>?_);have e3:=zj e3 a6;have e4:=zj e4 a6;have hT:=nh.jG hT a6;have HC:=HC.more a6;have HO:=HO.trans (a6.only [k]);have hP:=(zS.sl 99).jG hP a6;clear a6 u0 u1 u2 u3 u4 u5 u6;generalize wc.drew=Wx at e3 e4 hT hP HC HO hH |-;obtain⟨u0,u1,u2,u3,u4,u5,u6⟩:=id hH;refine .tq 0 [5] hH ?_
 try simp only[iI]
 refine .tq 1 [5] hH ?_
 try simp only[iI]
 refine .tq 2 [5] hH ?_
 try simp only[iI]
 refine .tq 3 [5] hH ?_
 try simp only[iI]
 refine fL.iQ (i:=4) gU rfl (fun K hK=>?_);obtain⟨k0,k1,k2,k3,kf,kl⟩:=jF e3;go_simp;obtain⟨af,o4⟩:=wj e3 (C Z b.gW) (C Z b.gN) (X b.iO) (X b.ic);have l6:g6<Wx.heap.size:=(Dq u0)
 have l7:g7<Wx.heap.size:=(Dq u4)
 have u0:=(o4.cell l6 (by simpa using ak) _).trans u0;have u1:=(o4.cell l6 (by simpa using ak) _).trans u1;have u2:=(o4.cell l6 (by simpa using ak) _).trans u2;have u3:=(o4.cell l6 (by simpa using ak) _).trans u3;have u4:=(o4.cell l7 (by simpa using aB) _).trans u4;have u5:=(o4.cell l7 (by simpa using aB) _).trans u5;have u6:=(o4.cell l7 (by simpa using aB) _).trans u6;have e4:=(o4.block g4 (blt e4) (by simpa using aI)).trans e4;have hT:=nh.iA hT (fun q hq=>o4.block q (nh.jQ hT q hq) (by simpa using aS q hq));have hP:=(zS.sl 99).iA hP (fun q hq=>o4.block q ((zS.sl 99).jQ hP q hq) (by simpa using(ae.out q hq).2.1));have HC:=HC.only o4 (by simpa using az.symm) (fun b hb=>by simp only[Vi] at hb;omega);have HO:=HO.then o4 (fun b hb=>.inr (by simp only[Vi] at hb;omega));refine hK.out _ _ ⟨u0,u1,u2,u3,u4,u5,u6⟩ ?_;clear hK k0 k1 k2 k3 kf kl o4 l6 l7;generalize Wc (Wc (Wc (Wc Wx _ _) _ _) _ _) _ _=W9 at af e4 hT hP HC HO u0 u1 u2 u3 u4 u5 u6 |-
 try simp only[iI]
 obtain⟨k0,k1,k2,kf,kl⟩:=kL e4;refine fL.last gU rfl gU (fun K hK=>?_);go_simp;refine hK.out _ _ ?_;clear hK
 try simp only[iI]
 obtain⟨aN,o5⟩:=vA e4 (J A0 (zo p b y1 y2).fw.length c0) (J A1 (zo p b y1 y2).fD.length c1) (J A2 (zo p b y1 y2).fm.length c2);have af:=(o5.block g3 (blt af) (by simpa using aI.symm)).trans af;have hT:=nh.iA hT (fun q hq=>o5.block q (nh.jQ hT q hq) (by simpa using aT q hq));have hP:=(zS.sl 99).iA hP (fun q hq=>o5.block q ((zS.sl 99).jQ hP q hq) (by simpa using(ae.out q hq).2.2.1));have HC:=HC.only o5 (by simpa using aA.symm) (fun b hb=>by simp only[Vi] at hb;omega);have HO:=HO.then o5 (fun b hb=>.inr (by simp only[Vi] at hb;omega));obtain⟨r0,r1,r2,r3,_,_⟩:=jF af;obtain⟨s0,s1,s2,_,_⟩:=kL aN;go_wp2_with(fail);refine Vr (v:=.tuple #[J A p.length c,.agg #[C Z b.gW,C Z b.gN,X b.iO,X b.ic],.agg #[J A0 (zo p b y1 y2).fw.length c0,J A1 (zo p b y1 y2).fD.length c1,J A2 (zo p b y1 y2).fm.length c2]]) (by simp[VF,results33,go_sem,r0,r1,r2,r3,s0,s1,s2]) rfl ?_;exact⟨A,c,p,b,y1,y2,A0,c0,A1,c1,A2,c2,T,SP,rfl,HD.out,HB.out,ap,aq,hP,fun q hq=>⟨(ae.out q hq).2.2.2,(ae.out q hq).1⟩,hT,aO,HC,HO⟩
end Go.Proofs.YthgbglbaemelhaaGreat
