/-
  PART.
-/
import Derived.Test.YthgbglbaemelhaaGreatM6LawRecords
import Derived.Test.YthgbglbaemelhaaGreatM7LawRecords
set_option linter.unusedVariables false
set_option linter.unusedSimpArgs false
set_option maxRecDepth 100000
set_option maxHeartbeats 8000000
namespace Go.Proofs.YthgbglbaemelhaaGreat
open Value renaming slice->J,int->C,bool->X,string->Q
open IntKind renaming i64->Z,wrap->Vl
open Option renaming none->I,some->F,map_some->Xp
open Obj renaming cells->U
open Bool renaming false->M,true->H
open Go renaming World->V,results->VF,Calls->VK,Addr->VQ,TypeId->Wl,Ending->Z9
open World renaming cell?->Vg,frozen?->VE,setCell->Wc
open List renaming length_cons->VC,getElem?_cons_zero->VU,length_singleton->Wi,nil_append->Wo,getElem?_cons_succ->Ww,range'->Yj,set_cons_zero->Zt
open _root_.Array renaming length_toList->Wg
open RowKit renaming intOf->Wj
open _root_.Nat renaming add_zero->Wk
open Tryz
open Go.RowKit
variable {A:N VQ}{B U8 c d i j k l level m n:Nat}{S:D Nat}{W w:V}{a b:D Int}{acc:D iF}{e:Wl}{hi:Int}{p:D fB}{q:iF}{v:Value}{x y:gC}{xs:D gC}
theorem Fv {α:Type} {T:Ty α} {xs:D α} (h:Has (T.sl e) w [J A n c] xs S){k:Nat}{x:α}(hx:xs[k]?=F x) :
  ∃ g ec Sc,A=F ⟨g,0,I⟩/\g∈S/\g<w.heap.size/\g∉Sc/\(∀ j∈Sc,j∈S)/\Has T w ec x Sc/\(∀ j,VE w ⟨g,j,I⟩=M)/\(∀ j u,ec[j]?=F u->Vg w ⟨g,k*T.size+j,I⟩=F u)/\
   (∀ ec' y Sy,Has T w ec' y Sy->(∀ b∈Sy,b∉S∨b∈Sc)->fG [g] w (setRow w g (k*T.size) 0 ec')/\∃ S',Has (T.sl e) (setRow w g (k*T.size) 0 ec') [J A n c] (xs.set k y) S'/\∀ b∈S',b∈S∨b∈Sy):=by
 obtain⟨h,hS⟩:=h;obtain⟨A',c',av,S',h1,h2,h3,rfl⟩:=h;injection h1 with h1 _
 injection h1 with hA hn hc
 subst hA hn hc;have hk:k<xs.length:=(Vh.1 hx).1;obtain⟨a,ec,b,Sa,Sc,Sb,rfl,rfl,hl,ha,hO,hb⟩:=gz.part h3 hx;obtain⟨a7,a8⟩:=h2;rcases a8 with⟨_,hn⟩ | ⟨g,au,a2,hv,a5,hg,ar,ak,al,a1⟩
 ·omega
 ·injection hv with hA _ hc
  subst hA hc;have am:g<w.heap.size:=(blt hg)
  simp only[lT,List.singleton_append,X8,Wb,VA,not_or] at hS;obtain⟨⟨ah,aj,ai⟩,ap,⟨ac,aq,ab⟩,ae⟩:=hS;have af:ec.length=T.size:=T.kQ hO
  have aw:(a++(ec++b)).length<=a2.size:=by
   rw[<-a1,WK];have:a2.toList.length=a2.size:=Wg;omega
  have a6:∀(j:Nat) (u:Value),(a++(ec++b))[j]?=F u->a2[j]?=F u:=by
   intro j u hu;rw[<-a1,Xh] at hu;split at hu
   ·simpa using hu
   ·cases hu
  refine⟨g,ec,Sc,rfl,by simp[lT],am,aj,fun j hj=>by simp[hj],⟨hO,ac⟩,fun j=>by simp[VE,hg],fun j u hu=>?_,fun ec' y Sy hy hSy=>?_⟩
  ·rw[WC w g _ a2 e (0,0) hg]
   apply a6;exact xY
  ·obtain⟨hy,ao⟩:=hy
   have ag:g∉Sy:=fun hm=>by
    rcases hSy g hm with h | h
    ·exact h (by simp[lT])
    ·exact aj h
   have a9:∀ b∈Sy,b∉Sa:=fun i hi hm=>by
    rcases hSy i hi with h | h
    ·exact h (by simp[hm])
    ·exact ae i hm i (.inl h) rfl
   have aa:∀ b∈Sy,b∉Sb:=fun i hi hm=>by
    rcases hSy i hi with h | h
    ·exact h (by simp[hm])
    ·exact ab i h i hm rfl
   have a3:ec'.length=T.size:=T.kQ hy;have a0:∀ i,i≠g->(setRow w g (k*T.size) 0 ec').heap[i]?=w.heap[i]?:=fun i hi=>NQ _ _ _ _ _ _ hi;have an:(a++(ec++b)).length=a.length+ec.length+b.length:=by simp only[Vk];omega
   refine⟨OL _ gm _ _ _ _ (fG.refl _ _),lT (F ⟨g,0,I⟩)++(Sa++(Sy++Sb)),⟨⟨F ⟨g,0,I⟩,c,a++(ec'++b),_,by rw[VY],⟨?_,.inr ⟨g,c,AS a2 (k*T.size) 0 ec',by rw[VY],a5,QW _ _ _ _ _ _ _ hg,by simpa using ar,ak,by rw[QV];exact al,?_⟩⟩,gz.join hx (gz.gu ha ?_) (T.iA hy ?_) (gz.gu hb ?_),rfl⟩,?_⟩,?_⟩
   ·rw[VY,<-a7]
    simp[af,a3]
   ·rw[VY]
    rw[Ig,Uk _ _ _ _ (by rw[a3];have:a2.toList.length=a2.size:=Wg;omega)];have hM:xs.length*T.size=a.length+ec.length+b.length:=by rw[<-a7,an]
    have e1:a2.toList.take (k*T.size+0)=a:=by
     have h:=WY (List.take (k*T.size)) a1;rw[List.take_take,Zl fh] at h;rw[Wk,h,List.take_append_of_le_length (Yl hl.symm),WE (Yl hl)]
    have e2:(a2.toList.drop (k*T.size+0+ec'.length)).take (xs.length*T.size-(k*T.size+T.size))=b:=by
     have h:=WY (List.drop (k*T.size+T.size)) a1;have ad:(a++ec).length=k*T.size+T.size:=by rw[Vk,hl,af]
     rw[List.drop_take,<-VM,List.drop_append_of_le_length (Yl ad.symm),List.drop_of_length_le (Yl ad),Wo] at h;rw[a3,Wk];exact h
    have a4:(a++ec').length=k*T.size+T.size:=by rw[Vk,hl,a3]
    rw[e1,<-VM,List.take_append,WE (by rw[a4];omega),a4,e2,VM]
   ·exact fun i hi=>a0 i (fun e=>ah (e ▸ hi))
   ·exact fun i hi=>a0 i (fun e=>ag (e ▸ hi))
   ·exact fun i hi=>a0 i (fun e=>ai (e ▸ hi))
   ·simp only[lT,List.singleton_append,X8,Wb,VA,not_or]
    refine⟨⟨ah,ag,ai⟩,ap,⟨ao,aq,fun i hi j hj he=>aa i hi (he ▸ hj)⟩,fun i hi j hj he=>?_⟩;rcases hj with hj | hj
    ·exact a9 j hj (he ▸ hi)
    ·exact ae i hi j (.inr hj) he
   ·intro i hi
    simp only[VA] at hi |-;rcases hi with hi | hi | hi | hi
    ·exact .inl (.inl hi)
    ·exact .inl (.inr (.inl hi))
    ·exact .inr hi
    ·exact .inl (.inr (.inr (.inr hi)))
def Mg (xs:D fB)(w:V)(r:Z9)(w':V):Prop:=∃ A c S,r=.returned (J A xs.length c)/\Has (zS.sl 99) w' [J A xs.length c] xs S/\(∀ b∈S,w.heap.size<=b)/\fy w w'
theorem zuI {xs:D fB} (hx:(zS.sl 99).R w w.heap.size [J A xs.length c] xs)(hl:xs.length<=1099511627776)(hs:∀ x∈xs,x.gD.length<=1099511627776/\x.Expr.length<=1099511627776) :
  VK prog 201 #[J A xs.length c] w (Mg xs w):=by
 go_enter func201,ntmps201;go_wp2_with(fail);go_loopw [3,4] (fun z j wr=>∃(k:Nat) (A5:N VQ) (c5:Nat) (S:D Nat),z=J A5 k c5/\j=C Z k/\k<=xs.length/\Hid (fy w wr)/\Hid (Has (zS.sl 99) wr [J A5 k c5] (xs.take k) S)/\Hid (∀ b∈S,w.heap.size<=b)) (fun _ j _=>xs.length-(Wj j).toNat)
 case atStart=>exact⟨0,_,0,[w.heap.size],rfl,rfl,Vu _,fk gF,fk (Has.iK zS (zj (Vj _ _) gF)),fk (fun b hb=>by simp only[Vi] at hb;omega)⟩
 case round=>
  obtain⟨k,A5,c5,S,rfl,rfl,hk,hG,hH,hS⟩:=hrel;by_cases hlt:k<xs.length
  ·obtain⟨g,am,x,ab,af,ac,ag,rfl,aj,a1,x0,x1,x2,x3,b0,b1,h2,h3⟩:=nA hx hlt
   have a6:(k:Int)<(xs.length:Int):=fh;have x0:=za hG.out x0;have x1:=za hG.out x1;have x2:=za hG.out x2;have x3:=za hG.out x3;obtain⟨a7,a8⟩:=hs x (Vx a1);have aa:Hid (xs.take k++[x]=xs.take (k+1)):=fk (by rw[Wr,a1];rfl);clear a1;have u2:=h2;have u3:=h3;go_wp2_with(first | (go_at_call 208;(with_reducible refine(zsq (x:=x) b0 b1 ((jB.sl 9).fH u2 hG.out (Vz _) |> fun h=>(jB.sl 9).jz h (fun _ _=>rfl) hG.out.size) ((jY.sl 160).fH u3 hG.out (Vz _) |> fun h=>(jY.sl 160).jz h (fun _ _=>rfl) hG.out.size) a7 a8).mono ?_);rintro e v2 ⟨ad,ah,ae,ai,SF,rfl,a4,a2,a0⟩) | (refine zJ (L:=k+1) rfl (.tmp 12) (.tmp 18) pg (S:=S) (hH.out.fH (fy.trans (b:=_) gF (a0.trans gF))) (a4.fH gF) (fun b hb hm=>by have h1:=a2 b hm;have h2:=hH.out.lt b hb;omega) rfl rfl rfl (by intro j u hu;simpa[go_sem] using hu) rfl fh fh ?_;intro A8 c8 W8 S8 a9 a3 a5));go_roundw
   case measure=>exact iC
   case rel=>
    have al:=a0.size;have ak:=hG.out.size;refine⟨k+1,A8,c8,S8,rfl,io,fh,fk (a9.fH (hG.out.trans (a0.trans gF)) hS.out),fk (by rw[<-aa.out];exact a3),fk (fun b hb=>?_)⟩;rcases a5 b hb with h | h | h
    ·exact hS.out b h
    ·have:=a2 b h;omega
    ·(try simp at h);omega
  ·obtain rfl:k=xs.length:=fh
   have a6:¬ ((xs.length:Int)<(xs.length:Int)):=fh;go_wp2_with(fail);refine Vr (v:=J A5 xs.length c5) (by simp[VF,results201,go_sem]) rfl ⟨A5,c5,S,rfl,?_,hS.out,hG.out⟩;have h:=hH.out;rw[WG] at h;exact h
theorem Ee {a:VQ} (h:W.cell? a=F v):W.setCell a v=W:=by
 unfold Vg at h;unfold Wc;split at h
 ·rename_i c e f hc
  split at h
  ·cases h
  ·rename_i hs
   have:W.heap.modify a.block (fun
    | U c elem frozen=>U (if a.spot.isSome then c else c.setIfInBounds a.off v) elem frozen
    | o=>o)=W.heap:=by
    apply YC
    intro i
    rw[YP]
    split
    ·rename_i hi
     subst hi;rw[hc];simp only[Xp,hs,Vo,WX,not_false_eq_true];congr 2;apply YC;intro k;rw[Array.getElem?_setIfInBounds];split
     ·rename_i hk
      subst hk;split
      ·exact h.symm
      ·rename_i hk2
       rw[Xq fh]
     ·rfl
    ·rfl
   exact WY (fun h=>({ W with heap:=h }:V)) this
 ·cases h
theorem Kc {xs:D fB} (h:Has (zS.sl e) w [J A n c] xs S){k:Nat}{x:fB}(hx:xs[k]?=F x) :
  ∃ g,A=F ⟨g,0,I⟩/\g∈S/\g<w.heap.size/\(∀ j,VE w ⟨g,j,I⟩=M)/\(∃ u,Vg w ⟨g,k*4+3,I⟩=F u)/\
   (∀(ys:D iq) (Ay:N VQ) (cy:Nat) (Sy:D Nat),Has (jY.sl 160) w [J Ay ys.length cy] ys Sy->(∀ b∈Sy,b∉S)->
    fG [g] w (w.setCell ⟨g,k*4+3,I⟩ (J Ay ys.length cy))/\∃ S',Has (zS.sl e) (w.setCell ⟨g,k*4+3,I⟩ (J Ay ys.length cy)) [J A n c] (xs.set k { x with Expr:=ys }) S'/\∀ b∈S',b∈S∨b∈Sy):=by
 obtain⟨g,ec,Sc,h1,h2,h3,h4,h5,h6,h7,h8,h9⟩:=Fv h hx;obtain⟨A0,c0,S0,A1,c1,S1,rfl,rfl,b0,b1,a0,a1⟩:=TL h6.1;have hz:zS.size=4:=rfl;rw[hz] at h8 h9;have k0:=h8 0 _ rfl;have k1:=h8 1 _ rfl;have k2:=h8 2 _ rfl;have k3:=h8 3 _ rfl;refine⟨g,h1,h2,h3,h7,⟨_,k3⟩,fun ys Ay cy Sy hy hd=>?_⟩;have hn:=(Wb.1 h6.2).1
 obtain⟨g1,S',g2,g3⟩:=h9 [C Z x.fC,Q x.fJ,J A0 x.gD.length c0,J Ay ys.length cy] { x with Expr:=ys } (S0++Sy) (FC (x:={ x with Expr:=ys }) b0 b1 ⟨a0,hn⟩ hy (fun b hb hm=>hd b hm (h5 b (by simp[hb])))) (fun b hb=>by
  rcases VA.1 hb with hm | hm
  ·exact .inr (by simp[hm])
  ·exact .inl (hd b hm))
 have hw:setRow w g (k*4) 0 [C Z x.fC,Q x.fJ,J A0 x.gD.length c0,J Ay ys.length cy]=w.setCell ⟨g,k*4+3,I⟩ (J Ay ys.length cy):=by
  simp only[setRow,VJ];rw[Ee k0,Ee k1,Ee k2]
 rw[hw] at g1 g2;refine⟨g1,S',g2,fun b hb=>?_⟩;rcases g3 b hb with hm | hm
 ·exact .inl hm
 ·rcases VA.1 hm with hm | hm
  ·exact .inl (h5 b (by simp[hm]))
  ·exact .inr hm
def qt (xs:D fB)(k:Nat):D fB:=(xs.take k).map zW++xs.drop k
theorem RY (xs:D fB){k:Nat}(h:k<=xs.length):(qt xs k).length=xs.length:=by unfold qt;simp;omega
theorem Ll {xs:D fB} {x:fB} (h:xs[k]?=F x):(qt xs k)[k]?=F x:=by
 have hk:=(Vh.1 h).1;unfold qt;rw[VX (by simp;omega)];simp[Zl (Zj hk),h]
theorem KL {xs:D fB} {x:fB} (h:xs[k]?=F x):(qt xs k).set k (zW x)=qt xs (k+1):=by
 obtain⟨hk,rfl⟩:=Vh.1 h;unfold qt;have hl:((xs.take k).map zW).length=k:=by simp;omega
 rw[YQ _ _ fh,hl,Ws,VB hk,Zt,Wr,h,X9,VM];rfl
theorem Rp {xs:D fB} {x:fB} (h:xs[k]?=F x)(h0:zW x=x):qt xs k=qt xs (k+1):=by
 obtain⟨a0,a1⟩:=Vh.1 (Ll h);rw[<-KL h,h0];have e:=List.set_getElem_self a0;rw[a1] at e;exact e.symm
theorem zsF {xs:D fB} (hx:(zS.sl 99).R w w.heap.size [J A xs.length c] xs)(hl:xs.length<=1099511627776)(hs:∀ x∈xs,x.gD.length<=1099511627776/\x.Expr.length<=1099511627776) :
  VK prog 195 #[J A xs.length c] w (Mg (qE xs) w):=by
 rcases Wm (zA xs) with hp | hp
 rotate_left
 ·have HP:=fk hp
  have HF:Hid (qE xs = []):=fk (by unfold qE;rw[Vo (by rw[hp];decide)]);clear hp;go_enter func195,ntmps195;go_wp2_with(first | (go_at_call 102;refine(zaU hx hl hs).mono ?_;rw[HP.out];rintro e1 v1 ⟨rfl,a2⟩));refine Vr (v:=J (F ⟨v1.heap.size,0,I⟩) 0 0) (by simp[VF,results195,go_sem]) rfl ?_;exact⟨F ⟨v1.heap.size,0,I⟩,0,[v1.heap.size],by rw[HF.out];rfl,by rw[HF.out];exact Has.iK zS (Vj _ _),fun b hb=>(by simp only[Vi] at hb;subst hb;exact a2.size),a2.trans gF⟩
 have HP:=fk hp;have HF:Hid (qE xs=xs.map zW):=fk (by unfold qE;rw[Vs hp]);clear hp;go_enter func195,ntmps195;go_wp2_with(first | (go_at_call 102;refine(zaU hx hl hs).mono ?_;rw[HP.out];rintro e1 v1 ⟨rfl,a2⟩) | (go_at_call 201;refine(zuI (Ty.up _ hx (a2.trans gF)) hl hs).mono ?_;rintro e2 v2 ⟨A2,c2,S2,rfl,am,ap,ar⟩));have aa:fy w v2:=a2.trans (fy.trans (b:=_) gF ar);have a9:∀ b∈S2,w.heap.size<=b:=fun b hb=>by have h1:=ap b hb;have h2:=a2.size;(try simp at h1);omega
 go_loopw [4] (fun j wr=>∃(k:Nat) (S:D Nat),j=C Z k/\k<=xs.length/\Hid (fy w wr)/\Hid (Has (zS.sl 99) wr [J A2 xs.length c2] (qt xs k) S)/\Hid (∀ b∈S,w.heap.size<=b)) (fun j _=>xs.length-(Wj j).toNat)
 case atStart=>exact⟨0,S2,rfl,Vu _,fk (aa.trans gF),fk (by unfold qt;simpa using am.fH gF),fk a9⟩
 case round=>
  obtain⟨k,S,rfl,hk,hG,hH,hS⟩:=hrel;by_cases hlt:k<xs.length
  ·have a0:xs[k]?=F xs[k]:=Vq hlt
   obtain⟨x,ag⟩:∃ x,xs[k]=x:=⟨_,rfl⟩
   rw[ag] at a0;have aF:=RY xs hk;have a3:=Ll a0;obtain⟨g,aI,x',aA,aC,aB,aD,a6,aE,a1,x0,x1,x2,x3,b0,b1,h2,h3⟩:=nA hH.out.read (k:=k) fh;obtain rfl:x'=x:=by rw[a3] at a1;injection a1 with h;exact h.symm
   obtain⟨g9,ab,au,af,ad,⟨u,hu⟩,a4⟩:=Kc hH.out a3;rw[ab] at a6;injection a6 with a6
   injection a6 with e1 e2
   subst e1 e2;subst ab;have ax:(k:Int)<(xs.length:Int):=fh;have az:=(hs x' (Vx a0)).2;simp only[VJ] at x0 x1 x2 x3;clear ag a1;by_cases h0:0<x'.Expr.length
   ·have aj:(x'.Expr.length:Int) > 0:=fh
    have ak:0<(x'.Expr.length:Int):=fh;have ah:Hid (zW x' = { x' with Expr:=tj x'.Expr }):=fk (by unfold zW;rw[Vs h0]);have a7:Hid ((qt xs k).set k (zW x')=qt xs (k+1)):=fk (KL a0);have ai:=fk a3;clear h0 a0 a3 a4 ad hu af;go_wp2_with(first | (go_at_call 202;refine(zsE (Ty.up _ h3 gF) az).mono ?_;rintro e3 v3 ⟨A4,c4,S4,rfl,an,ac,ae⟩;obtain⟨g',a8,av,aw,aq,⟨u',aG⟩,a5⟩:=Kc (hH.out.fH (fy.trans (b:=_) gF ae)) ai.out;injection a8 with a8;injection a8 with e1 e2;subst e1));go_roundw
    case measure=>exact iC
    case rel=>
     have aH:=hG.out.size;obtain⟨ay,S',al,ao⟩:=a5 (tj x'.Expr) A4 c4 S4 an (fun b hb hm=>by have h1:=ac b hb;have h2:=hH.out.lt b hm;(try simp at h1);omega);refine⟨k+1,S',io,fh,fk ((ay.fH (hG.out.trans (fy.trans (b:=_) gF ae)) (fun b hb=>by simp only[Vi] at hb;subst hb;exact hS.out _ au)).trans gF),fk ?_,fk (fun b hb=>?_)⟩
     ·rw[<-a7.out,ah.out];exact al.fH gF
     ·rcases ao b hb with h | h
      ·exact hS.out b h
      ·have:=ac b h;(try simp at this);omega
   ·have aj:¬ ((x'.Expr.length:Int) > 0):=fh
    have ak:¬ (0<(x'.Expr.length:Int)):=fh;have a7:Hid (qt xs k=qt xs (k+1)):=fk (Rp a0 (by unfold zW;rw[Vo h0]));clear h0 a0 a3 a4 ad hu af;go_wp2_with(fail);go_roundw;exact⟨k+1,S,io,fh,fk (hG.out.trans gF),fk (by rw[<-a7.out];exact hH.out.fH gF),hS⟩;exact iC
  ·obtain rfl:k=xs.length:=fh
   have ax:¬ ((xs.length:Int)<(xs.length:Int)):=fh;go_wp2_with(fail);refine Vr (v:=J A2 xs.length c2) (by simp[VF,results195,go_sem]) rfl ?_;have h:=hH.out;unfold qt at h;rw[WG,VW,Wu] at h;exact⟨A2,c2,S,by rw[HF.out,Yb],by rw[HF.out,Yb];exact h,hS.out,hG.out⟩
theorem Lr {x:mT} {w:Nat} {lo:Int} (h:jg x.Code=(w,H))(hl : -(2 ^ (8*w-1))=lo)(hh:2 ^ (8*w-1)-1=hi):lj x=(gE x.Code 0 17 && gE x.iz lo hi):=by
 unfold lj;rw[h,<-hl,<-hh];rfl
theorem FE {x:mT} {w:Nat} (h:jg x.Code=(w,M))(hh:2 ^ (8*w)-1=hi):lj x=(gE x.Code 0 17 && gE x.iz 0 hi):=by
 unfold lj;rw[h,<-hh];rfl
theorem My {c:Int} {w:Nat} {sg:Bool} (h:jg c=(w,sg))(hb:gE c 0 17=H):zK c=(w:Int)+1:=by
 unfold zK;rw[Vs hb,h]
theorem ZA {g:Prop} (f:g:=by
  have HA:=fk hz
  have HW:=fk h
  have HB:=fk hb
  have HZ:=fk (My h hb)
  clear hb h hz
  go_enter func194,ntmps194
  go_wp2_with(first | (go_at_call 180;(with_reducible refine(zeD _ _).mono ?_);rw[HW.out];rintro e w1 ⟨rfl,rfl⟩) | (go_at_call 43;(with_reducible refine(iU _ _ _ _).mono ?_);rw[HB.out];rintro e w2 ⟨rfl,rfl⟩) | (go_at_call 43;(with_reducible refine(iU _ _ _ _).mono ?_);rw[HA.out];rintro e w3 ⟨rfl,rfl⟩))
  go_ret
  exact⟨zp HO.out.symm,gG⟩):g:=f
theorem zw2 (x:mT)(w:V):VK prog 194 #[.agg #[C Z x.Code,C Z x.iz]] w fun e w'=>e=.returned (X (lj x))/\fy w w':=by
 cases hb:gE x.Code 0 17
 ·have HO:=fk (show lj x=M from by unfold lj;rw[hb];rfl)
  have HB:=fk hb;have HZ:=fk (show zK x.Code=0 from by unfold zK;rw[hb];rfl);clear hb;go_enter func194,ntmps194;go_wp2_with(first | (go_at_call 180;refine(zeD _ _).mono ?_;rintro e w1 ⟨rfl,rfl⟩) | (go_at_call 43;refine(iU _ _ _ _).mono ?_;rw[HB.out];rintro e w2 ⟨rfl,rfl⟩));go_ret;exact⟨zp HO.out.symm,gG⟩
 ·rcases BG x.Code with h | h | h | h | h
  ·obtain⟨z,hz⟩:∃ z,gE x.iz (-2147483648) 2147483647=z:=⟨_,rfl⟩
   have HO:Hid (lj x=z):=fk (by rw[Lr h (lo:=-2147483648) (hi:=2147483647) (by rfl) (by rfl),hb,hz];rfl);exact ZA
  ·obtain⟨z,hz⟩:∃ z,gE x.iz (-32768) 32767=z:=⟨_,rfl⟩
   have HO:Hid (lj x=z):=fk (by rw[Lr h (lo:=-32768) (hi:=32767) (by rfl) (by rfl),hb,hz];rfl);exact ZA
  ·obtain⟨z,hz⟩:∃ z,gE x.iz 0 65535=z:=⟨_,rfl⟩
   have HO:Hid (lj x=z):=fk (by rw[FE h (hi:=65535) (by rfl),hb,hz];rfl);exact ZA
  ·obtain⟨z,hz⟩:∃ z,gE x.iz 0 255=z:=⟨_,rfl⟩
   have HO:Hid (lj x=z):=fk (by rw[FE h (hi:=255) (by rfl),hb,hz];rfl);exact ZA
  ·obtain⟨z,hz⟩:∃ z,gE x.iz 0 0=z:=⟨_,rfl⟩
   have HO:Hid (lj x=z):=fk (by rw[FE h (hi:=0) (by rfl),hb,hz];rfl);exact ZA
theorem Ph {x:mT} (h:lj x=H):0<=x.Code/\x.Code<=17:=by
 unfold lj at h;rw[Vt] at h;exact zr.1 h.1
theorem Pg {a:Int} (h:k<n):qi a (n-k) k=pj (a / 2 ^ (8*k))::qi a (n-(k+1)) (k+1):=by
 rw[show n-k=n-(k+1)+1 from fh];rfl
theorem Kq (n:Int):nV.R w B [C .u8 (n % 256)] (pj n):=by
 have h:=E5 (w:=w) (B:=B) (n % 256).toNat fh;rw[Int.toNat_of_nonneg fh] at h;exact h
theorem QD {n:Int} (h0:0<=n)(h1:n<20):nV.R w B [C .u8 n] (pj n):=by
 have h:=Kq (w:=w) (B:=B) n;rw[show n % 256=n from fh] at h;exact h
theorem zx3 (x:mT)(w:V):VK prog 162 #[.agg #[C Z x.Code,C Z x.iz]] w fun e w'=>e=.returned (Q (jV x))/\fy w w':=by
 cases hb:lj x
 ·have HS:=fk (show jV x=⟨#[]⟩ from by unfold jV;rw[hb];rfl)
  have HB:=fk hb;clear hb;go_enter func162,ntmps162;go_wp2_with(go_at_call 194;refine(zw2 x _).mono ?_;rw[HB.out];rintro e w1 ⟨rfl,a4,d1,rfl⟩);go_ret;exact⟨nu HS.out.symm,gG⟩
 ·obtain⟨n,sg,hW⟩:∃ n sg,jg x.Code=(n,sg):=⟨_,_,rfl⟩
  have hn:n<=4:=by have:=tB x.Code;rw[hW] at this;exact this
  have hc:=Ph hb;have HS:=fk (show jV x=⟨(pj x.Code::qi x.iz n 0).toArray⟩ from by unfold jV;rw[hb,hW];rfl);have HB:=fk hb;have HW:=fk hW;clear hb hW;go_enter func162,ntmps162;go_wp2_with(first | (go_at_call 194;refine(zw2 x _).mono ?_;rw[HB.out];rintro e w1 ⟨rfl,a4,d1,rfl⟩) | (go_at_call 180;refine(zeD _ _).mono ?_;rw[HW.out];rintro e w2 ⟨rfl,rfl⟩));go_loopw [5,6] (fun a b wr=>∃(k:Nat) (a0:D UInt8) (A:N VQ) (c:Nat),a=J A a0.length c/\b=C Z k/\k<=n/\a0.length=k+1/\Hid (a0++qi x.iz (n-k) k=pj x.Code::qi x.iz n 0)/\Hid (fy (w.alloc (U #[C Z x.Code,C Z x.iz] 142)) wr)/\Hid (gH (nV.sl 5) (w.alloc (U #[C Z x.Code,C Z x.iz] 142)) wr [J A a0.length c] a0)) (fun _ b _=>n-(Wj b).toNat)
  case atStart=>exact⟨0,[pj x.Code],_,1,rfl,rfl,Vu _,rfl,fk gm,fk gF,fk (JZ Cs (W1:=w) (B:=0) (ec:=[C .u8 (x.Code)]) (QD hc.1 fh) gF gm)⟩
  case round=>
   obtain⟨k,a0,A,c,rfl,rfl,hk,a2,HT,hG,hF⟩:=hrel;obtain⟨os,d,rfl⟩:=hG.out;clear hG;by_cases hlt:k<n
   ·have a3:(k:Int)<(n:Int):=fh
    have a5:Vl Z (8*(k:Int))=8*(k:Int):=iw;have HN:=fk (Pg (a:=x.iz) hlt);go_wp2_with(at_builtin;(refine yo (L:=a0.length+1) rfl (.tmp 25) (.tmp 32) Do Cs (W0:=w.alloc (U #[C Z x.Code,C Z x.iz] 142)) (hF.out.fH gG).mw gG (W1:=w) (B:=0) (ec:=[C .u8 (x.iz / 2 ^ (8*k) % 256)]) (y:=pj (x.iz / 2 ^ (8*k))) (Kq _) rfl rfl rfl (by intro j u hu;simpa[go_sem] using hu) rfl fh fh ?_);intro A2 c2 a6 d2 a1);go_roundw;exact⟨k+1,a0++[pj (x.iz / 2 ^ (8*k))],A2,c2,by simp;omega,io,fh,by simp;omega,fk (by rw[<-HT.out,HN.out];simp),fk gG,fk (by simpa using a1)⟩;exact iC
   ·obtain rfl:k=n:=fh
    have a3:¬ ((k:Int)<(k:Int)):=fh;have HE:Hid (a0=pj x.Code::qi x.iz k 0):=fk (by have h:=HT.out;rw[Ws] at h;simpa[qi] using h);have kc:=Ed hF.out.read;rw[a2] at kc;go_wp2_with(fail);go_ret;exact⟨nu (by rw[HS.out,HE.out]),gG⟩
theorem vi (h:(vW.sl e).R w B [J A n c] xs){k:Nat}(hk:k<xs.length) :
  ∃ g off x A0 c0,A=F ⟨g,off,I⟩/\g<B/\xs[k]?=F x/\Vg w ⟨g,off+k*8,I⟩=F (C Z x.fN)/\Vg w ⟨g,off+k*8+1,I⟩=F (C Z x.fE.Op.Code)/\Vg w ⟨g,off+k*8+2,I⟩=F (C Z x.fE.Op.iz)/\Vg w ⟨g,off+k*8+3,I⟩=F (C Z x.fE.fZ)/\Vg w ⟨g,off+k*8+4,I⟩=F (X x.fE.fA)/\Vg w ⟨g,off+k*8+5,I⟩=F (J A0 x.fE.fP.length c0)/\Vg w ⟨g,off+k*8+6,I⟩=F (C Z x.fE.fT)/\Vg w ⟨g,off+k*8+7,I⟩=F (X x.fE.fU)/\fQ x.fN/\fQ x.fE.Op.Code/\fQ x.fE.Op.iz/\fQ x.fE.fZ/\(zv.sl 3).R w B [J A0 x.fE.fP.length c0] x.fE.fP/\fQ x.fE.fT:=by
 obtain⟨g,off,x,ec,h1,hB,h2,h3,h4⟩:=pz h hk;obtain⟨A0,c0,rfl,hf⟩:=Tw h3;exact⟨g,off,x,A0,c0,h1,hB,h2,h4 0 _ rfl,h4 1 _ rfl,h4 2 _ rfl,h4 3 _ rfl,h4 4 _ rfl,h4 5 _ rfl,h4 6 _ rfl,h4 7 _ rfl,hf⟩
def SY (xs:D jk)(w:V)(r:Z9)(w':V):Prop:=∃ A c S,r=.returned (J A xs.length c)/\Has (nk.sl 216) w' [J A xs.length c] xs S/\(∀ b∈S,w.heap.size<=b)/\fy w w'
def sh (xs:D gC)(k:Nat):N fX:=match k with
 | 0=>I
 | j+1=>xs[j]?.map gC.fE
def Cc (x:gC):jk:=⟨x.fN,x.fE.fZ,x.fE.fA⟩
theorem Bq (hx:xs[k]?=F x)(h:∀ y,sh xs k=F y->¬ (x.fE.fA=M/\y.fA=M/\y.fZ=x.fE.fZ)):tu (sh xs k) (xs.drop k)=Cc x::tu (sh xs (k+1)) (xs.drop (k+1)):=by
 obtain⟨h1,rfl⟩:=Vh.1 hx;rw[VB h1];have hp:sh xs (k+1)=F xs[k].fE:=by simp[sh,h1]
 rw[hp];cases hq:sh xs k with
 | none=>rfl
 | some y=>
  show (if _ then [] else [_])++_=_;rw[Vo (h y hq)];rfl
theorem NL {y:fX} (hx:xs[k]?=F x)(hq:sh xs k=F y)(h:x.fE.fA=M/\y.fA=M/\y.fZ=x.fE.fZ):tu (sh xs k) (xs.drop k)=tu (sh xs (k+1)) (xs.drop (k+1)):=by
 obtain⟨h1,rfl⟩:=Vh.1 hx;rw[VB h1];have hp:sh xs (k+1)=F xs[k].fE:=by simp[sh,h1]
 rw[hp,hq];show (if _ then [] else [_])++_=_;rw[Vs h];rfl
theorem Us {g:Nat} {o0 o1 o2 o3 o4 o5 o6 o7:Value} (h:W.heap[g]?=F (U #[o0,o1,o2,o3,o4,o5,o6,o7] e (0,0))) :
  Vg W ⟨g,0,I⟩=F o0/\Vg W ⟨g,1,I⟩=F o1/\Vg W ⟨g,2,I⟩=F o2/\Vg W ⟨g,3,I⟩=F o3/\Vg W ⟨g,4,I⟩=F o4/\Vg W ⟨g,5,I⟩=F o5/\Vg W ⟨g,6,I⟩=F o6/\Vg W ⟨g,7,I⟩=F o7/\(∀ j,VE W ⟨g,j,I⟩=M)/\g<W.heap.size:=by
 refine⟨?_,?_,?_,?_,?_,?_,?_,?_,fun j=>by simp[VE,h],(blt h)⟩
 all_goals
  rw[WC W g _ _ _ (0,0) h]
  rfl
theorem ow {p:VQ} (h:w.cell? p=F v)(n:Nat):(w.drewN n).cell? p=F v:=za ((fy.refl _).drewN n) h
theorem Ra (x:gC){b:Bool}(h:x.fE.fA=b)(h0:fQ x.fN)(h1:fQ x.fE.fZ):nk.R w B [C Z x.fN,C Z x.fE.fZ,X b] (Cc x):=by
 subst h;exact Ku (x:=Cc x) h0 h1
theorem zxg (hx:(vW.sl 229).R w w.heap.size [J A xs.length c] xs)(hl:xs.length<=1000000) :
  VK prog 127 #[J A xs.length c] w (SY (uy xs) w):=by
 go_enter func127,ntmps127;go_wp2_with(fail);go_loopw [3,4] (fun z j wr=>∃(k:Nat) (A5:N VQ) (c5:Nat) (S:D Nat) (a0:D jk),z=J A5 a0.length c5/\j=C Z k/\k<=xs.length/\Hid (fy w wr)/\Hid (Has (nk.sl 216) wr [J A5 a0.length c5] a0 S)/\Hid (∀ b∈S,w.heap.size<=b)/\Hid (a0++tu (sh xs k) (xs.drop k)=uy xs)/\a0.length<=k) (fun _ j _=>xs.length-(Wj j).toNat)
 case atStart=>exact⟨0,_,0,[w.heap.size],[],rfl,rfl,Vu _,fk gF,fk (Has.iK nk (zj (Vj _ _) gF)),fk (fun b hb=>by simp only[Vi] at hb;omega),fk rfl,gm⟩
 case round=>
  obtain⟨k,A5,c5,S,a0,rfl,rfl,hk,hG,hH,hS,hA,aA⟩:=hrel;by_cases hlt:k<xs.length
  ·obtain⟨g,ak,x,a9,ab,rfl,aB,a3,x0,x1,x2,x3,x4,x5,x6,x7,b0,b1,b2,b3,h5,b6⟩:=vi hx hlt
   have av:(k:Int)<(xs.length:Int):=fh;have aC:Vl Z ((k:Int)+1)=(k:Int)+1:=iw;have x0:=za hG.out x0;have x1:=za hG.out x1;have x2:=za hG.out x2;have x3:=za hG.out x3;have x4:=za hG.out x4;have x5:=za hG.out x5;have x6:=za hG.out x6;have x7:=za hG.out x7;obtain⟨bs,ad⟩:∃ b,x.fE.fA=b:=⟨_,rfl⟩
   rw[ad] at x4;have a7:=fk ad;clear ad;go_upto_region 6 with(fail);have eb:(wr.alloc (U #[C Z x.fE.Op.Code,C Z x.fE.Op.iz,C Z x.fE.fZ,X bs,J a9 x.fE.fP.length ab,C Z x.fE.fT,X x.fE.fU] 227)).heap[wr.heap.size]?=F (U #[C Z x.fE.Op.Code,C Z x.fE.Op.iz,C Z x.fE.fZ,X bs,J a9 x.fE.fP.length ab,C Z x.fE.fT,X x.fE.fU] 227 (0,0)):=Vj _ _;have a1:fy wr (wr.alloc (U #[C Z x.fE.Op.Code,C Z x.fE.Op.iz,C Z x.fE.fZ,X bs,J a9 x.fE.fP.length ab,C Z x.fE.fT,X x.fE.fU] 227)):=(fy.refl _).alloc _;obtain⟨g5,ae⟩:∃ g,wr.heap.size=g:=⟨_,rfl⟩
   have ax:w.heap.size<=wr.heap.size:=hG.out.size;rw[ae] at eb ax |-;have al:=fk ae;clear ae;generalize (wr.alloc _)=Y at eb a1 |-;obtain⟨o0,o1,o2,o3,o4,o5,o6,of,ol⟩:=jb eb;have x0:=za a1 x0;have hb:bs=H∨bs=M:=by cases bs <;> simp
   have a2:0<k∨k=0:=fh;refine Zq hb (fun hb=>Zq a2 (fun a2=>?tp) (fun a2=>?tz)) (fun hb=>Zq a2 (fun a2=>?fp) (fun a2=>?fz))
   case' tp=>
    have a4:(0:Int)<(k:Int):=fh;have a5:=fk (Bq a3 (fun y hy hh=>by rw[a7.out,hb] at hh;exact Bool.noConfusion hh.1))
   case' tz=>
    have a4:¬ ((0:Int)<(k:Int)):=fh;have ag:¬ (0<k):=fh;have a5:=fk (Bq a3 (fun y hy hh=>by rw[a7.out,hb] at hh;exact Bool.noConfusion hh.1));clear a2
   case' fz=>
    have a4:¬ ((0:Int)<(k:Int)):=fh;have ag:¬ (0<k):=fh;have a5:=fk (Bq a3 (fun y hy hh=>by rw[a2] at hy;cases hy));clear a2
   case' fp=>
    have a4:(0:Int)<(k:Int):=fh;obtain⟨j,hj⟩:∃ j,k=j+1:=⟨k-1,fh⟩
    have ar:j<xs.length:=fh;obtain⟨g',ai,q,ay,az,ac,aq,aj,q0,q1,q2,q3,q4,_⟩:=vi hx ar;injection ac with ac
    injection ac with hAA1 hAA2
    obtain rfl:g=g':=hAA1;obtain rfl:ak=ai:=hAA2;have q3:=za (hG.out.trans a1) q3;have q4:=za (hG.out.trans a1) q4;have aw:Vl Z ((k:Int)-1)=(j:Int):=by rw[hj];show Vl Z (((j+1:Nat):Int)-1)=_;rw[show ((j+1:Nat):Int)-1=(j:Int) from fh];exact iw
    have au:(j:Int)<(xs.length:Int):=fh;have aa:Hid (sh xs k=F q.fE):=fk (by rw[hj];show (xs[j]?.map gC.fE)=_;rw[aj];rfl);clear hj aj;refine Zq (show q.fE.fA=H∨q.fE.fA=M by cases q.fE.fA <;> simp) (fun hqs=>Zq (show (q.fE.fZ == x.fE.fZ)=H∨(q.fE.fZ == x.fE.fZ)=M by cases (q.fE.fZ == x.fE.fZ) <;> simp) (fun ah=>?qa) (fun ah=>?qb)) (fun hqs=>Zq (Classical.em (q.fE.fZ=x.fE.fZ)) (fun hql=>?qc) (fun hql=>?qd))
   case' qa | qb=>
    rw[hqs] at q4;have a5:=fk (Bq a3 (fun y hy hh=>by rw[aa.out] at hy;injection hy with hy;rw[<-hy,hqs] at hh;exact Bool.noConfusion hh.2.1))
   case' qd=>
    rw[hqs] at q4;have ah:(q.fE.fZ == x.fE.fZ)=M:=Vw.2 hql;have a5:=fk (Bq a3 (fun y hy hh=>by rw[aa.out] at hy;injection hy with hy;rw[<-hy] at hh;exact hql hh.2.2));clear hql hqs
   case qc=>
    rw[hqs] at q4;have ah:(q.fE.fZ == x.fE.fZ)=H:=V4.2 hql;have am:=fk (NL a3 aa.out ⟨a7.out.trans hb,hqs,hql⟩);clear a3 hqs hql;go_quiet (fail);go_wp2_with(fail);go_roundw;exact⟨k+1,A5,c5,S,a0,rfl,io,fh,fk ((hG.out.trans a1).trans gF),fk ((hH.out.fH a1).fH gF),hS,fk (by rw[<-hA.out,am.out]),fh⟩;exact iC
   all_goals
    clear a3
    go_quiet (fail)
    have a6:g5∉S:=fun hm=>by have h:=hH.out.lt g5 hm;have h2:=al.out;omega
    have ap:g∉S:=fun hm=>by have h:=hS.out g hm;omega
    have af:g<Y.heap.size:=fh
    go_upto_region 7 with(fail)
    go_region_held3 (fun w'=>Vg w' ⟨g5,2,I⟩=F (C Z x.fE.fZ)/\Vg w' ⟨g5,3,I⟩=F (X bs)/\Vg w' ⟨g,ak+k*8,I⟩=F (C Z x.fN)) ((repeat' apply Vm) <;> ((repeat (first | with_reducible assumption | with_reducible refine zd ?_ _ _ | with_reducible refine zq ?_ _ | with_reducible refine zc ?_ | with_reducible refine ow ?_ _));done)) (first | (refine sv (L:=a0.length+1) rfl (.tmp 47) (.tmp 58) Mi Le ((hH.out.fH a1).fH gF) (W1:=w) (B:=0) (ec:=[C Z x.fN,C Z x.fE.fZ,X _]) (y:=Cc x) (Ra x (a7.out.trans hb) b0 b3) rfl rfl rfl (by intro j u hu;simpa[go_sem] using hu) rfl fh fh ?_;intro A8 c8 W8 S8 a8 an ao;have o2:=(a8.cell (g:=g5) (Vn ol (fy.size gF)) a6 _).trans (za gF o2);have o3:=(a8.cell (g:=g5) (Vn ol (fy.size gF)) a6 _).trans (za gF o3);have x0:=(a8.cell (g:=g) (Vn af (fy.size gF)) ap _).trans (za gF x0)))
    all_goals go_wp2_with(fail)
    go_roundw
    exact⟨k+1,A8,c8,S8,a0++[Cc x],by rw[Vk];rfl,io,fh,fk (a8.fH ((hG.out.trans a1).trans gF) hS.out),fk (by rw[Vk];exact an),fk (fun b hb=>(ao b hb).elim (hS.out b) (fun h=>VL (((hG.out.trans a1).trans gF)).size h)),fk (by rw[<-hA.out,a5.out,VM];rfl),by rw[Vk,Wi];omega⟩
    exact iC
  ·obtain rfl:k=xs.length:=fh
   have av:¬ ((xs.length:Int)<(xs.length:Int)):=fh;have HE:Hid (a0=uy xs):=fk (by have h:=hA.out;rw[VW] at h;simpa[tu] using h);go_wp2_with(fail);exact Vr (v:=J A5 a0.length c5) (by simp[VF,results127,go_sem]) rfl (by rw[<-HE.out];exact⟨A5,c5,S,rfl,hH.out,hS.out,hG.out⟩)
def R8 (xs:D iF)(w:V)(r:Z9)(w':V):Prop:=∃ A c S,r=.returned (J A xs.length c)/\Has (mh.sl 205) w' [J A xs.length c] xs S/\(∀ b∈S,w.heap.size<=b)/\fy w w'
def vS (x:gC):iF:=⟨x.fN,x.fN+zK x.fE.Op.Code,x.fE.fU,x.fE.fT⟩
theorem Tn {xs:D iF} (h:Has (mh.sl e) W [J A n c] xs S)(hq:xs[m]?=F q):∃ g,A=F ⟨g,0,I⟩/\g∈S/\g<W.heap.size/\(∀ j,VE W ⟨g,j,I⟩=M)/\
  Vg W ⟨g,m*4,I⟩=F (C Z q.fA)/\Vg W ⟨g,m*4+1,I⟩=F (C Z q.iD)/\Vg W ⟨g,m*4+2,I⟩=F (X q.Frame)/\Vg W ⟨g,m*4+3,I⟩=F (C Z q.fT)/\
  ∀ v,fQ v->Has (mh.sl e) (W.setCell ⟨g,m*4+1,I⟩ (C Z v)) [J A n c] (xs.set m { q with iD:=v }) S/\fG S W (W.setCell ⟨g,m*4+1,I⟩ (C Z v)):=by
 obtain⟨g,ec,Sc,rfl,a1,a2,_,_,_,hO,hf,hc,a0,_⟩:=sA h.1 h.2 hq;obtain⟨rfl,rfl,b0,b1,b2⟩:=TN hO;refine⟨g,rfl,a1,a2,hf,hc 0 _ rfl,hc 1 _ rfl,hc 2 _ rfl,hc 3 _ rfl,fun v hv=>?_⟩;have hp:=a0 1 (C Z v) { q with iD:=v } gv rfl (Rb (x:={ q with iD:=v }) b0 hv b2);exact⟨⟨hp.1,h.2⟩,hp.2⟩
theorem xC {g:Prop} (f:g:=by
  by_cases hjm:j<m
  ·rw[Wh (by simp;omega),List.getElem?_dropLast,Vs fh]
  ·rw[XK (by simp;omega),XK fh]):g:=f
theorem MP (hq:acc[m]?=F q)(hn:acc.length=m+1)(h:q.iD=x.fN/\q.Frame=x.fE.fU/\q.fT=x.fE.fT):rV acc x=acc.set m { q with iD:=x.fN+zK x.fE.Op.Code }:=by
 have hl:acc.getLast?=F q:=by rw[Yz,hn];exact hq
 unfold rV;simp only[hl];rw[Vs h];apply Zf;intro j;rw[Zd];by_cases hj:m=j
 ·subst hj
  rw[Vs rfl,Vs fh,VX (by simp;omega)];simp[hn]
 ·rw[Vo hj]
  exact xC
theorem MQ (hq:acc[m]?=F q)(hn:acc.length=m+1)(h:¬ (q.iD=x.fN/\q.Frame=x.fE.fU/\q.fT=x.fE.fT)):rV acc x=acc++[vS x]:=by
 have hl:acc.getLast?=F q:=by rw[Yz,hn];exact hq
 unfold rV;simp only[hl];rw[Vo h];rfl
theorem Kj {α β:Type} {f:β->α->β} {xs:D α} {x:α} {b:β} (h:xs[k]?=F x):(xs.drop k).foldl f b=(xs.drop (k+1)).foldl f (f b x):=by
 obtain⟨h1,rfl⟩:=Vh.1 h;rw[VB h1];rfl
theorem RZ (h:xs[k]?=F x):sd (xs.drop k)=(gE x.fN 0 1000000 && sd (xs.drop (k+1))):=by
 obtain⟨h1,rfl⟩:=Vh.1 h;rw[VB h1];rfl
theorem Ju (h:sd xs=H)(hx:xs[k]?=F x):0<=x.fN/\x.fN<=1000000:=by
 unfold sd at h;rw[Xm] at h;exact zr.1 (h x (Vx hx))
theorem CX (c:Int):0<=zK c/\zK c<=5:=by
 unfold zK;split
 ·have:=tB c
  omega
 ·omega
theorem zpI (hx:(vW.sl 229).R w w.heap.size [J A xs.length c] xs)(hl:xs.length<=1000000) :
  VK prog 168 #[J A xs.length c] w fun e w'=>e=.returned (X (sd xs))/\fy w w':=by
 go_enter func168,ntmps168;go_wp2_with(fail);go_loopw [3] (fun j wr=>∃ k:Nat,j=C Z k/\k<=xs.length/\Hid (fy w wr)/\Hid (sd (xs.drop k)=sd xs)) (fun j _=>xs.length-(Wj j).toNat)
 case atStart=>exact⟨0,rfl,Vu _,fk gF,fk rfl⟩
 case round=>
  obtain⟨k,rfl,hk,hG,hN⟩:=hrel;by_cases hlt:k<xs.length
  ·obtain⟨g,a6,x,a2,a3,rfl,a4,a0,x0,_⟩:=vi hx hlt
   have a1:(k:Int)<(xs.length:Int):=fh;have a5:Vl Z ((k:Int)+1)=(k:Int)+1:=iw;have x0:=za hG.out x0;obtain⟨b,hb⟩:∃ b,gE x.fN 0 1000000=b:=⟨_,rfl⟩
   have HA:=fk (RZ a0);have HB:=fk hb;clear a0 hb;cases b with
   | true=>
    go_wp2_with(first | (go_at_call 43;refine(iU _ _ _ _).mono ?_;rw[HB.out];rintro e w2 ⟨rfl,rfl⟩));go_roundw;exact⟨k+1,io,fh,hG,fk (by rw[<-hN.out,HA.out,HB.out];rfl)⟩;exact iC
   | false=>
    go_wp2_with(first | (go_at_call 43;refine(iU _ _ _ _).mono ?_;rw[HB.out];rintro e w2 ⟨rfl,rfl⟩));go_ret;exact⟨zp (by rw[<-hN.out,HA.out,HB.out];rfl),hG.out⟩
  ·obtain rfl:k=xs.length:=fh
   have a1:¬ ((xs.length:Int)<(xs.length:Int)):=fh;have HE:Hid (sd xs=H):=fk (by rw[<-hN.out,VW];rfl);go_wp2_with(fail);go_ret;exact⟨zp HE.out.symm,hG.out⟩
theorem tV {g:Prop} (f:g:=by
  go_upto_region 10 with(fail)
  go_quiet (fail)
  go_wp2_with(first | (refine zG (L:=m+1+1) rfl (.tmp 84) (.tmp 86) FI Er (hH2.out.fH gF) (W1:=w) (B:=0) (ec:=[C Z x.fN,C Z (x.fN+zK x.fE.Op.Code),X x.fE.fU,C Z x.fE.fT]) (y:=vS x) (Eb (x:=vS x) b0 hoI b6) rfl rfl rfl (by intro j u hu;simpa[go_sem] using hu) rfl fh fh ?_;intro A8 c8 W8 S8 hon hH8 hS8))
  go_roundw
  exact⟨k+1,m+1+1,A8,c8,S8,acc++[vS x],rfl,io,fh,fh,fk (by rw[Vk,hn.out];rfl),fk (hon.fH ((hG.out.trans hgwx).trans gF) hS.out),fk hH8,fk (fun b hb=>(hS8 b hb).elim (hS.out b) (fun h=>VL (((hG.out.trans hgwx).trans gF)).size h)),fk (by rw[<-hA.out,HF.out,HP.out])⟩
  exact iC):g:=f
theorem zvH (hx:(vW.sl 229).R w w.heap.size [J A xs.length c] xs)(hl:xs.length<=1000000) :
  VK prog 126 #[J A xs.length c] w (R8 (qM xs) w):=by
 obtain⟨nb,ac⟩:∃ b,sd xs=b:=⟨_,rfl⟩
 have a0:=fk ac;clear ac;cases nb with
 | false=>
  have HE:Hid (qM xs = []):=fk (by unfold qM;rw[a0.out];rfl);go_enter func126,ntmps126;go_wp2_with(first | (go_at_call 168;refine(zpI (Ty.up _ hx gF) hl).mono ?_;rw[a0.out];rintro e w1 ⟨rfl,a1⟩));exact Vr (v:=J (F ⟨w.heap.size,0,I⟩) 0 0) (by simp[VF,results126,go_sem]) rfl (by rw[HE.out];exact⟨_,0,[w.heap.size],rfl,Has.iK mh (zj (Vj w (U #[] 205)) (fy.trans (b:=_) gF a1)),fun b hb=>by simp only[Vi] at hb;omega,fy.trans (b:=_) gF a1⟩)
 | true=>
 have HE:Hid (qM xs=xs.foldl rV []):=fk (by unfold qM;rw[a0.out];rfl);go_enter func126,ntmps126;go_wp2_with(first | (go_at_call 168;refine(zpI (Ty.up _ hx gF) hl).mono ?_;rw[a0.out];rintro e w1 ⟨rfl,a1⟩));go_loopw [3,4] (fun z j wr=>∃(k n:Nat) (A5:N VQ) (c5:Nat) (S:D Nat) (acc:D iF),z=J A5 n c5/\j=C Z k/\k<=xs.length/\n<=k/\Hid (acc.length=n)/\Hid (fy w wr)/\Hid (Has (mh.sl 205) wr [J A5 n c5] acc S)/\Hid (∀ b∈S,w.heap.size<=b)/\Hid ((xs.drop k).foldl rV acc=qM xs)) (fun _ j _=>xs.length-(Wj j).toNat)
 case atStart=>exact⟨0,0,_,0,[w.heap.size],[],rfl,rfl,Vu _,Vu _,fk rfl,fk (fy.trans (b:=_) gF a1),fk (Has.iK mh (zj (Vj w (U #[] 205)) (fy.trans (b:=_) gF a1))),fk (fun b hb=>by simp only[Vi] at hb;omega),fk HE.out.symm⟩
 case round=>
  obtain⟨k,n,A5,c5,S,acc,rfl,rfl,hk,ar,hn,hG,hH,hS,hA⟩:=hrel;by_cases hlt:k<xs.length
  ·obtain⟨g,az,x,a5,a7,rfl,ao,aa,x0,x1,x2,x3,x4,x5,x6,x7,b0,b1,b2,b3,h5,b6⟩:=vi hx hlt
   have ak:(k:Int)<(xs.length:Int):=fh;have aw:Vl Z ((k:Int)+1)=(k:Int)+1:=iw;have au:=Ju a0.out aa;have av:=CX x.fE.Op.Code;have hoI:fQ (x.fN+zK x.fE.Op.Code):=⟨fh,fh⟩
   have ay:Vl Z (x.fN+zK x.fE.Op.Code)=x.fN+zK x.fE.Op.Code:=iw;have HF:=fk (Kj (f:=rV) (b:=acc) aa);have x0:=za hG.out x0;have x1:=za hG.out x1;have x2:=za hG.out x2;have x3:=za hG.out x3;have x4:=za hG.out x4;have x5:=za hG.out x5;have x6:=za hG.out x6;have x7:=za hG.out x7;clear aa;go_upto_region 8 with(fail);have eb:(wr.alloc (U #[C Z x.fN,C Z x.fE.Op.Code,C Z x.fE.Op.iz,C Z x.fE.fZ,X x.fE.fA,J a5 x.fE.fP.length a7,C Z x.fE.fT,X x.fE.fU] 229)).heap[wr.heap.size]?=F (U #[C Z x.fN,C Z x.fE.Op.Code,C Z x.fE.Op.iz,C Z x.fE.fZ,X x.fE.fA,J a5 x.fE.fP.length a7,C Z x.fE.fT,X x.fE.fU] 229 (0,0)):=Vj _ _;have ab:fy wr (wr.alloc (U #[C Z x.fN,C Z x.fE.Op.Code,C Z x.fE.Op.iz,C Z x.fE.fZ,X x.fE.fA,J a5 x.fE.fP.length a7,C Z x.fE.fT,X x.fE.fU] 229)):=(fy.refl _).alloc _;obtain⟨g5,a8⟩:∃ g,wr.heap.size=g:=⟨_,rfl⟩
   rw[a8] at eb |-;have ad:=fk a8;clear a8;generalize (wr.alloc _)=Y at eb ab |-;obtain⟨o0,o1,o2,o3,o4,o5,o6,o7,of,ol⟩:=Us eb;go_cut [6] from 23 to 39 (fun v wx=>∃ g6,v=.pointer (F ⟨g6,0,I⟩)/\fy Y wx/\wx.heap[g6]?=F (U #[C Z x.fN,C Z (x.fN+zK x.fE.Op.Code),X x.fE.fU,C Z x.fE.fT] 205 (0,0))/\Y.heap.size<=g6)
   case first=>
    go_region_held3 (fun w'=>Vg w' ⟨g5,0,I⟩=F (C Z x.fN)/\Vg w' ⟨g5,1,I⟩=F (C Z x.fE.Op.Code)/\Vg w' ⟨g5,6,I⟩=F (C Z x.fE.fT)/\Vg w' ⟨g5,7,I⟩=F (X x.fE.fU)) ((repeat' apply Vm) <;> ((repeat (first | with_reducible assumption | with_reducible refine zd ?_ _ _ | with_reducible refine zq ?_ _ | with_reducible refine zc ?_ | with_reducible refine ow ?_ _));done)) (first | (go_at_call 167;refine(zgV _ _).mono ?_;rintro e w' ⟨rfl,rfl⟩))
    all_goals go_wp2_with(fail)
    all_goals go_meet
    all_goals exact⟨_,rfl,gF,zj (Vj Y _) gF,Vz _⟩
   case rest=>
    obtain⟨g6,rfl,af,ae,al⟩:=hcut;have hgwx:fy wr wc:=ab.trans af;obtain⟨r0,r1,r2,r3,rf,rl⟩:=jF ae;have hH2:=fk (hH.out.fH hgwx);clear x0 x1 x2 x3 x4 x5 x6 x7 o0 o1 o2 o3 o4 o5 o6 o7 of eb;cases n with
    | zero=>
     have hz:¬ ((0:Int) > 0):=fh;have HP:Hid (rV acc x=acc++[vS x]):=fk (by rw[XT.1 hn.out];rfl);go_upto_region 10 with(fail);go_quiet (fail);go_wp2_with(first | (refine zG (L:=0+1) rfl (.tmp 84) (.tmp 86) FI Er (hH2.out.fH gF) (W1:=w) (B:=0) (ec:=[C Z x.fN,C Z (x.fN+zK x.fE.Op.Code),X x.fE.fU,C Z x.fE.fT]) (y:=vS x) (Eb (x:=vS x) b0 hoI b6) rfl rfl rfl (by intro j u hu;simpa[go_sem] using hu) rfl fh fh ?_;intro A8 c8 W8 S8 hon hH8 hS8));go_roundw;exact⟨k+1,0+1,A8,c8,S8,acc++[vS x],rfl,io,fh,fh,fk (by rw[Vk,hn.out];rfl),fk (hon.fH ((hG.out.trans hgwx).trans gF) hS.out),fk hH8,fk (fun b hb=>(hS8 b hb).elim (hS.out b) (fun h=>VL (((hG.out.trans hgwx).trans gF)).size h)),fk (by rw[<-hA.out,HF.out,HP.out])⟩;exact iC
    | succ m=>
     obtain⟨q,hq⟩:∃ q,acc[m]?=F q:=⟨_,Vq (by have:=hn.out;omega)⟩
     obtain⟨gr,ag,a9,aj,ai,q0,q1,q2,q3,a2⟩:=Tn hH2.out hq;subst ag;have a6:=fk a2;have aq:(0:Int)<((m:Int)+1):=fh;have am:(((m+1:Nat):Int)) > 0:=fh;have ax:Vl Z ((m:Int)+1-1)=(m:Int):=by rw[XM];exact iw
     have an:Vl Z (m:Int)=(m:Int):=iw;have ap:(m:Int)<(m:Int)+1:=fh;have ah:gr≠g6:=fun e=>by have h:=hH.out.lt gr a9;have h2:=ad.out;rw[<-e] at al;omega
     clear a2;have a4:=fun h=>MQ (x:=x) hq hn.out h;have a3:=fun h=>MP (x:=x) hq hn.out h;have KP:=fk a4;have KJ:=fk a3;clear a4 a3 hq;by_cases e1:q.iD=x.fN
     ·by_cases e2:q.Frame=x.fE.fU
      ·by_cases e3:q.fT=x.fE.fT
       ·have HJ:=fk (KJ.out ⟨e1,e2,e3⟩)
        have f1:(q.iD == x.fN)=H:=V4.2 e1;have f2:(q.Frame == x.fE.fU)=H:=V4.2 e2;have f3:(q.fT == x.fE.fT)=H:=V4.2 e3;clear e1 e2 e3;go_upto_region 10 with(fail);go_quiet (fail);go_wp2_with(fail);have hj:=a6.out (x.fN+zK x.fE.Op.Code) hoI;go_roundw;exact⟨k+1,m+1,F ⟨gr,0,I⟩,c5,S,acc.set m { q with iD:=x.fN+zK x.fE.Op.Code },rfl,io,fh,fh,fk (by rw[VY];exact hn.out),fk ((hj.2.fH (hG.out.trans hgwx) hS.out).trans gF),fk (hj.1.fH gF),hS,fk (by rw[<-hA.out,HF.out,HJ.out])⟩;exact iC
       ·have HP:=fk (KP.out (fun h=>e3 h.2.2))
        have f1:(q.iD == x.fN)=H:=V4.2 e1;have f2:(q.Frame == x.fE.fU)=H:=V4.2 e2;have f3:(q.fT == x.fE.fT)=M:=Vw.2 e3;clear e1 e2 e3;exact tV
      ·have HP:=fk (KP.out (fun h=>e2 h.2.1))
       have f1:(q.iD == x.fN)=H:=V4.2 e1;have f2:(q.Frame == x.fE.fU)=M:=Vw.2 e2;clear e1 e2;exact tV
     ·have HP:=fk (KP.out (fun h=>e1 h.1))
      have f1:(q.iD == x.fN)=M:=Vw.2 e1;clear e1;exact tV
  ·obtain rfl:k=xs.length:=fh
   have ak:¬ ((xs.length:Int)<(xs.length:Int)):=fh;have HR:Hid (acc=qM xs):=fk (by have h:=hA.out;rw[VW] at h;exact h);go_wp2_with(fail);exact Vr (v:=J A5 n c5) (by simp[VF,results126,go_sem]) rfl (by rw[<-HR.out];exact⟨A5,c5,S,by rw[hn.out],by rw[hn.out];exact hH.out,hS.out,hG.out⟩)
theorem pZ {g:Prop} (f:g:=by
  clear hx HXK
  go_wp2_with(go_at_call 43;refine(iU _ _ _ _).mono ?_;rw[hb];rintro e w1 ⟨rfl,rfl⟩)
  go_ret
  exact⟨zp (by rw[<-hE.out,DX HX.out,HR.out];rfl),gG⟩):g:=f
theorem wO {g:Prop} (f:g:=by
  clear HXK
  go_wp2_with(go_at_call 43;refine(iU _ _ _ _).mono ?_;rw[hb];rintro e w1 ⟨rfl,rfl⟩)
  go_roundw
  exact⟨k+1,by show C Z r.iD=C Z ((rs[k]?.map iF.iD).getD 0);rw[HX.out];rfl,io,fh,fk gG,fk (by rw[<-hE.out,DX HX.out,HR.out];simp[rI,HX.out]),by show 0<=(rs[k]?.map iF.iD).getD 0;rw[HX.out];show 0<=r.iD;omega⟩
  exact iC):g:=f
theorem zeV {rs:D iF} (hx:(mh.sl 205).R w w.heap.size [J A rs.length c] rs) :
  VK prog 114 #[J A rs.length c] w fun e w'=>e=.returned (X (sM 0 rs))/\fy w w':=by
 obtain⟨_,_,ac,h1,h2⟩:=mQ hx;injection ac with e1 e2 e3
 subst e1 e3;clear e2;go_enter func114,ntmps114;go_wp2;go_loopw [3,4] (fun z a wr=>∃ k:Nat,z=C Z (rI rs k)/\a=C Z k/\k<=rs.length/\Hid (fy w wr)/\Hid (sM (rI rs k) (rs.drop k)=sM 0 rs)/\0<=rI rs k) (fun _ a _=>rs.length-(Wj a).toNat)
 case atStart=>exact⟨0,rfl,rfl,Vu _,fk (fy.refl _),fk rfl,Xv _⟩
 case round=>
  obtain⟨k,rfl,rfl,hk,hG,hE,ae⟩:=hrel;obtain⟨os,d,rfl⟩:=hG.out;clear hG;by_cases hlt:k<rs.length
  ·obtain⟨g,af,r,hA,ad,a5,x0,x1,x2,x3,bs,be,bd⟩:=LQ hx hlt
   have HX:=fk a5;have HXK:=fk a5;have x0:=zd x0 os d;have x1:=zd x1 os d;have x2:=zd x2 os d;have x3:=zd x3 os d;have ab:(k:Int)<(rs.length:Int):=fh;clear a5;subst hA;by_cases a1:r.fA<rI rs k
   ·have a8:decide (r.fA<rI rs k)=H:=Vv a1
    have HR:=fk (BI (last:=rI rs k) (r:=r) fh);exact pZ
   ·have a8:decide (r.fA<rI rs k)=M:=Vp a1
    by_cases a2:r.iD<=r.fA
    ·have a9:decide (r.iD<=r.fA)=H:=Vv a2
     have HR:=fk (BI (last:=rI rs k) (r:=r) fh);exact pZ
    ·have a9:decide (r.iD<=r.fA)=M:=Vp a2
     by_cases a3:1000000<r.iD
     ·have aa:decide (1000000<r.iD)=H:=Vv a3
      have HR:=fk (BI (last:=rI rs k) (r:=r) fh);exact pZ
     ·have aa:decide (1000000<r.iD)=M:=Vp a3
      obtain⟨b,hb⟩:∃ b,gE r.fT 0 1200=b:=⟨_,rfl⟩
      cases b with
      | false=>
       have HR:=fk (BI (last:=rI rs k) (r:=r) (by rw[hb];simp));exact pZ
      | true=>
       obtain⟨a4,a7⟩:∃ b,r.Frame=b:=⟨_,rfl⟩
       cases a4 with
       | true=>
        obtain⟨a0,a6⟩:∃ b,(r.fT != 0)=b:=⟨_,rfl⟩
        cases a0 with
        | true=>
         have HR:=fk (BI (last:=rI rs k) (r:=r) (by intro h;have h9:=h.2.2.2.2 a7;simp[h9] at a6));exact pZ
        | false=>
         have HR:=fk (CZ.2 (show rI rs k<=r.fA/\r.fA<r.iD/\r.iD<=1000000/\gE r.fT 0 1200=H/\(r.Frame=H->r.fT=0) from⟨fh,fh,fh,hb,fun _=>by simpa using a6⟩));exact wO
       | false=>
        have HR:=fk (CZ.2 (show rI rs k<=r.fA/\r.fA<r.iD/\r.iD<=1000000/\gE r.fT 0 1200=H/\(r.Frame=H->r.fT=0) from⟨fh,fh,fh,hb,fun h=>by rw[a7] at h;cases h⟩));exact wO
  ·have ab:¬ ((k:Int)<(rs.length:Int)):=fh
   go_wp2_with(fail);go_ret;refine⟨zp ?_,gG⟩;rw[<-hE.out,show k=rs.length from fh,VW];rfl
theorem Ni {xs:D fB} {x:fB} (h:xs[i]?=F x)(hi:i<=k)(s:G):yu (xs.drop i) (k+1-i) s=yu (xs.drop (i+1)) (k+1-(i+1)) (if x.fC=0 then x.fJ else s):=by
 obtain⟨h1,rfl⟩:=Vh.1 h;rw[VB h1,show k+1-i=k+1-(i+1)+1 from fh];rfl
theorem Hw {k:Int} (h:¬ (0<=k/\k<p.length)):rv p k=iK:=Vo h
theorem ND (h:k<p.length):rv p (k:Int)=yu p (k+1) iK:=by
 unfold rv;rw[Vs ⟨fh,fh⟩];rfl
theorem wY {g:Prop} (f:g:=by
  go_enter func22,ntmps22
  go_wp2_with(fail)
  go_loopw [5,6] (fun z j wr=>z=Q iK/\j=C Z 0/\Hid (fy w wr)) (fun _ j _=>0)
  case atStart=>exact⟨rfl,rfl,fk gF⟩
  case round=>
   obtain⟨rfl,rfl,hG⟩:=hrel
   go_wp2_with(fail)
   go_ret
   exact⟨nu HL.out.symm,hG.out⟩):g:=f
theorem zmP {k:Int} (hx:(zS.sl 99).R w w.heap.size [J A p.length c] p)(hl:p.length<=1000000) :
  VK prog 22 #[J A p.length c,C Z k] w fun e w'=>e=.returned (Q (rv p k))/\fy w w':=by
 by_cases hk0:0<=k
 ·by_cases hkl:k<p.length
  ·obtain⟨n,rfl⟩:=VI hk0
   have a5:n<p.length:=fh;have HL:=fk (ND a5);go_enter func22,ntmps22;go_wp2_with(fail);go_loopw [5,6] (fun z j wr=>∃(i:Nat) (s:G),z=Q s/\j=C Z i/\i<=n+1/\Hid (fy w wr)/\Hid (yu (p.drop i) (n+1-i) s=rv p n)) (fun _ j _=>n+1-(Wj j).toNat)
   case atStart=>exact⟨0,_,rfl,rfl,Vu _,fk gF,fk HL.out.symm⟩
   case round=>
    obtain⟨i,s,rfl,rfl,hi,hG,hN⟩:=hrel;by_cases hle:i<=n
    ·have a4:i<p.length:=fh
     obtain⟨g,ad,x,a6,a8,a7,a9,rfl,aa,a0,x0,x1,x2,x3,b0,b1,_⟩:=nA hx a4;have a2:(i:Int)<=(n:Int):=fh;have ab:(i:Int)<(p.length:Int):=fh;have ac:Vl Z ((i:Int)+1)=(i:Int)+1:=iw;have x0:=za hG.out x0;have x1:=za hG.out x1;have HA:=fk (Ni a0 hle s);clear a0;by_cases h0:x.fC=0
     ·have a1:(x.fC == 0)=H:=V4.2 h0
      have HS:Hid ((if x.fC=0 then x.fJ else s)=x.fJ):=fk (Vs h0);clear h0;go_wp2_with(fail);go_roundw;exact⟨i+1,x.fJ,rfl,io,fh,hG,fk (by rw[<-hN.out,HA.out,HS.out])⟩;exact iC
     ·have a1:(x.fC == 0)=M:=Vw.2 h0
      have HS:Hid ((if x.fC=0 then x.fJ else s)=s):=fk (Vo h0);clear h0;go_wp2_with(fail);go_roundw;exact⟨i+1,s,rfl,io,fh,hG,fk (by rw[<-hN.out,HA.out,HS.out])⟩;exact iC
    ·obtain rfl:i=n+1:=fh
     have a2:¬ ((n:Int)+1<=(n:Int)):=fh;have a3:¬ (((n+1:Nat):Int)<=(n:Int)):=fh;have HE:Hid (s=rv p n):=fk (by rw[<-hN.out,Ws];cases p.drop (n+1) <;> rfl);go_wp2_with(fail);go_ret;exact⟨nu HE.out,hG.out⟩
  ·have HL:Hid (rv p k=iK):=fk (Hw (fun h=>hkl h.2))
   exact wY
 ·have HL:Hid (rv p k=iK):=fk (Hw (fun h=>hk0 h.1))
  exact wY
def sR (a b:D Int)(n:Nat):Bool:=decide (n<=a.length) && (decide (n<=b.length) && decide (a.take n=b.take n))
theorem QI {x:Int} (h:a.take i=b.take i)(ha:a[i]?=F x)(hb:b[i]?=F x):a.take (i+1)=b.take (i+1):=by
 rw[Wr,Wr,ha,hb,h]
theorem QJ {x y:Int} (ha:a[i]?=F x)(hb:b[i]?=F y)(hn:i<n)(h:x≠y):a.take n≠b.take n:=by
 intro he;have h1:=WY (fun l=>l[i]?) he;simp only[Xh,hn,Xe,ha,hb] at h1;injection h1 with h1
 exact h h1
theorem zzt {B:N VQ} (hx:(zv.sl 3).R w w.heap.size [J A a.length c] a)(hy:(zv.sl 3).R w w.heap.size [J B b.length d] b)(hn:n<=1000000) :
  VK prog 170 #[J A a.length c,J B b.length d,C Z n] w fun e w'=>e=.returned (X (sR a b n))/\fy w w':=by
 by_cases ha:n<=a.length
 ·have a2:¬ ((a.length:Int)<(n:Int)):=fh
  by_cases hb:n<=b.length
  ·have a3:¬ ((b.length:Int)<(n:Int)):=fh
   have HS:Hid (sR a b n=decide (a.take n=b.take n)):=fk (by unfold sR;simp[ha,hb]);go_enter func170,ntmps170;go_wp2_with(fail);go_loopw [7] (fun j wr=>∃ i:Nat,j=C Z i/\i<=n/\Hid (fy w wr)/\Hid (a.take i=b.take i)) (fun j _=>n-(Wj j).toNat)
   case atStart=>exact⟨0,rfl,Vu _,fk gF,fk rfl⟩
   case round=>
    obtain⟨i,rfl,hi,hG,hT⟩:=hrel;by_cases hlt:i<n
    ·obtain⟨ga,oa,x,rfl,a0,xa,_⟩:=ma hx (Vn hlt ha)
     obtain⟨gb,ob,y,rfl,a1,yb,_⟩:=ma hy (Vn hlt hb);have a4:(i:Int)<(n:Int):=fh;have a6:(i:Int)<(a.length:Int):=fh;have a7:(i:Int)<(b.length:Int):=fh;have a8:Vl Z ((i:Int)+1)=(i:Int)+1:=iw;have xa:=za hG.out xa;have yb:=za hG.out yb;by_cases he:x=y
     ·have a5:(x != y)=M:=by simp[he]
      have HT:Hid (a.take (i+1)=b.take (i+1)):=fk (QI hT.out a0 (by rw[he];exact a1));clear he a0 a1;go_wp2_with(fail);go_quiet (fail);go_wp2_with(fail);go_roundw;exact⟨i+1,io,fh,fk (hG.out.trans gF),HT⟩;exact iC
     ·have a5:(x != y)=H:=by simp[he]
      have HT:Hid (sR a b n=M):=fk (by rw[HS.out,Vp (QJ a0 a1 hlt he)]);clear he a0 a1;go_wp2_with(fail);go_quiet (fail);go_wp2_with(fail);go_ret;exact⟨zp HT.out.symm,hG.out.trans gF⟩
    ·obtain rfl:i=n:=fh
     have a4:¬ ((i:Int)<(i:Int)):=fh;have HT:Hid (sR a b i=H):=fk (by rw[HS.out,Vv hT.out]);go_wp2_with(fail);go_ret;exact⟨zp HT.out.symm,hG.out⟩
  ·have a3:(b.length:Int)<(n:Int):=fh
   have HS:Hid (sR a b n=M):=fk (by unfold sR;simp[hb]);go_enter func170,ntmps170;go_wp2_with(fail);go_ret;exact⟨zp HS.out.symm,gG⟩
 ·have a2:(a.length:Int)<(n:Int):=fh
  have HS:Hid (sR a b n=M):=fk (by unfold sR;simp[ha]);go_enter func170,ntmps170;go_wp2_with(fail);go_ret;exact⟨zp HS.out.symm,gG⟩
theorem NC {x:fX} {y:Int} (h:x.fP[l+1]?=F y):mA p x l=rv p y:=by
 unfold mA;rw[Vs (Vh.1 h).1,VR,h];rfl
theorem Nh {x:fX} (h:¬ l+1<x.fP.length):mA p x l=rv p x.fZ:=Vo h
theorem zhZ {A5:N VQ} {c5:Nat} (hx:(zS.sl 99).R w w.heap.size [J A p.length c] p)(hl:p.length<=1000000)(hc:(zv.sl 3).R w w.heap.size [J A5 x.fE.fP.length c5] x.fE.fP)(hll:l<=1000) :
  VK prog 169 #[J A p.length c,.agg #[C Z x.fN,C Z x.fE.Op.Code,C Z x.fE.Op.iz,C Z x.fE.fZ,X x.fE.fA,J A5 x.fE.fP.length c5,C Z x.fE.fT,X x.fE.fU],C Z l] w fun e w'=>e=.returned (Q (mA p x.fE l))/\fy w w':=by
 have a6:Vl Z ((l:Int)+1)=(l:Int)+1:=iw;by_cases h:l+1<x.fE.fP.length
 ·obtain⟨gc,oc,y,rfl,a2,yc,_⟩:=ma hc h
  have a3:=Wf _ _ yc;simp only at a3;have a4:(x.fE.fP.length:Int) > (l:Int)+1:=fh;have a1:(l:Int)+1<(x.fE.fP.length:Int):=fh;have a5:((l:Int)+1).toNat=l+1:=fh;have HN:=fk (NC (p:=p) a2);clear a2;go_enter func169,ntmps169;go_wp2_with(first | (go_at_call 22;refine(zmP (k:=y) (Ty.up _ hx gF) hl).mono ?_;rw[<-HN.out];rintro e w1 ⟨rfl,a0⟩));go_ret;exact⟨rfl,fy.trans (b:=_) gF a0⟩
 ·have a4:¬ ((x.fE.fP.length:Int) > (l:Int)+1):=fh
  have a1:¬ ((l:Int)+1<(x.fE.fP.length:Int)):=fh;have HN:=fk (Nh (p:=p) h);go_enter func169,ntmps169;go_wp2_with(first | (go_at_call 22;refine(zmP (k:=x.fE.fZ) (Ty.up _ hx gF) hl).mono ?_;rw[<-HN.out];rintro e w1 ⟨rfl,a0⟩));go_ret;exact⟨rfl,fy.trans (b:=_) gF a0⟩
def rK (p:D fB)(level:Nat)(l:D gC):D gL:=pS p level l.length l
theorem Nc (p:D fB)(level:Nat):∀(n:Nat)(l:D gC),l.length<=n->pS p level n l=pS p level l.length l:=by
 intro n;induction n using Nat.strongRecOn with
 | ind n ih=>
  intro l hl;cases l with
  | nil=>cases n <;> rfl
  | cons x r=>
   obtain⟨n,rfl⟩:∃ m,n=m+1:=⟨n-1,by simp at hl;omega⟩
   simp only[VC] at hl;show pS p level (n+1) (x::r)=pS p level (r.length+1) (x::r);unfold pS;split
   ·simp only
    congr 1;have hd:(r.drop (r.takeWhile (rE p level x.fE.fP (mA p x.fE level))).length).length<=r.length:=by rw[WL];omega
    rw[ih n fh _ fh];by_cases hr:r.length=n
    ·subst hr
     rw[ih _ fh _ hd]
    ·rw[ih r.length fh _ hd]
   ·rw[ih n fh r fh]
def AM (p:D fB)(level:Nat)(x y:gC):gL:=⟨x.fN,y.fN+zK y.fE.Op.Code,level,x.fE.fP.getD level 0,mA p x.fE level⟩
theorem P6 (hx:xs[k]?=F x)(h:¬ level<x.fE.fP.length):rK p level (xs.drop k)=rK p level (xs.drop (k+1)):=by
 obtain⟨h1,rfl⟩:=Vh.1 hx;unfold rK;rw[VB h1,VC]
 conv=>lhs;unfold pS
 rw[Vo h]
def lr (f:gC->Bool)(xs:D gC)(k j:Nat):Prop:=(xs.drop (k+1)).takeWhile f=(xs.drop (k+1)).take j++(xs.drop (k+1+j)).takeWhile f
theorem PD (f:gC->Bool)(xs:D gC)(k:Nat):lr f xs k 0:=by unfold lr;simp
theorem lr.next {f:gC->Bool} (h:lr f xs k j)(hy:xs[k+1+j]?=F y)(hf:f y=H):lr f xs k (j+1):=by
 unfold lr at h |-;obtain⟨h1,rfl⟩:=Vh.1 hy;rw[h,VB h1,List.takeWhile_cons_of_pos hf,Wr];have:(xs.drop (k+1))[j]?=F xs[k+1+j]:=by rw[Xi];exact hy
 rw[this];simp[Yq]
theorem lr.done (h:lr (rE p level x.fE.fP (mA p x.fE level)) xs k j)(hx:xs[k]?=F x)(hl:level<x.fE.fP.length)(hy:xs[k+j]?=F y)
  (hend:∀ z,xs[k+1+j]?=F z->rE p level x.fE.fP (mA p x.fE level) z=M):rK p level (xs.drop k)=AM p level x y::rK p level (xs.drop (k+1+j)):=by
 obtain⟨h1,rfl⟩:=Vh.1 hx;have a7:=(Vh.1 hy).1
 have a0:(xs.drop (k+1+j)).takeWhile (rE p level xs[k].fE.fP (mA p xs[k].fE level)) = []:=by
  cases hz:xs[k+1+j]? with
  | none=>
   rw[XG (WN.1 hz)];rfl
  | some z=>
   have a6:=hend z hz;obtain⟨g1,rfl⟩:=Vh.1 hz;rw[VB g1,List.takeWhile_cons_of_neg (by rw[a6];simp)]
 have a3:(xs.drop (k+1)).takeWhile (rE p level xs[k].fE.fP (mA p xs[k].fE level))=(xs.drop (k+1)).take j:=by
  have:=h;unfold lr at this;rw[this,a0,Wu]
 have a5:((xs.drop (k+1)).take j).length=j:=by rw[WK,WL];omega
 have a1:∀ a4:(xs[k]::(xs.drop (k+1)).take j)≠[],(xs[k]::(xs.drop (k+1)).take j).getLast a4=y:=by
  intro a4;rw[List.getLast_eq_getElem];have a8:(xs[k]::(xs.drop (k+1)).take j).length-1=j:=by rw[VC,a5];omega
  have a2:(xs[k]::(xs.drop (k+1)).take j)[j]?=F y:=by
   cases j with
   | zero=>
    rw[Wk,Vq h1] at hy;rw[VU];exact hy
   | succ j=>
    rw[Ww,Xh,Vs fh,Xi,show k+1+j=k+(j+1) from fh];exact hy
  obtain⟨q1,q2⟩:=Vh.1 a2;rw[<-q2];congr 1
 unfold rK;rw[VB h1,VC]
 conv=>lhs;unfold pS
 rw[Vs hl];simp only[a3,a5];rw[a1];show AM p level xs[k] y::_=_;congr 1;rw[Xx];rw[Nc p level _ _ (by simp only[WL];omega)]
theorem Nj (h:∀ x∈p,x.fJ.size<=U8)(k:Int):(rv p k).size<=U8:=by
 have a0:∀(l:D fB) (n:Nat) (s:G),(∀ x∈l,x.fJ.size<=U8)->s.size<=U8->(yu l n s).size<=U8:=by
  intro l;induction l with
  | nil=>intro n s _ hs;cases n <;> exact hs
  | cons x r ih=>
   intro n s hl hs;cases n with
   | zero=>exact hs
   | succ n=>
    refine ih n _ (fun y hy=>hl y (.tail _ hy)) ?_;split
    ·exact hl x (.head _)
    ·exact hs
 unfold rv;split
 ·exact a0 _ _ _ h (Vu _)
 ·exact Vu _
theorem Mw (h:∀ x∈p,x.fJ.size<=U8)(x:fX)(l:Nat):(mA p x l).size<=U8:=by
 unfold mA;split <;> exact Nj h _
theorem Tk (h:xs[k]?=F x)(m:Nat):(xs.drop k).foldl (fun n x=>max n x.fE.fP.length) m=(xs.drop (k+1)).foldl (fun n x=>max n x.fE.fP.length) (max m x.fE.fP.length):=Kj (f:=fun n (x:gC)=>max n x.fE.fP.length) h
theorem Rk (h:level<n):(Yj level (n-level)).flatMap (fun lv=>rK p lv xs)=rK p level xs++(Yj (level+1) (n-(level+1))).flatMap (fun lv=>rK p lv xs):=by
 rw[show n-level=n-(level+1)+1 from fh,List.range'_succ];rfl
theorem Nf (h1:zA p=H)(h2:sd xs=H):nZ p xs=(Yj 0 (vk xs-0)).flatMap (fun lv=>rK p lv xs):=by
 unfold nZ;rw[Vs ⟨h1,h2⟩,List.range_eq_range'];rfl
def SX (xs:D gL)(w:V)(r:Z9)(w':V):Prop:=∃ A c S,r=.returned (J A xs.length c)/\Has (mc.sl 214) w' [J A xs.length c] xs S/\(∀ b∈S,w.heap.size<=b)/\fy w w'
theorem QS {ft:D Int} {name:G} (hl:level<ft.length):rE p level ft name y=(sR ft y.fE.fP (level+1) && decide (mA p y.fE level=name)):=by
 unfold rE sR;by_cases h1:level<y.fE.fP.length
 ·have h2:level+1<=y.fE.fP.length:=h1
  have h3:level+1<=ft.length:=hl;simp only[h1,h2,h3,decide_true,XX];by_cases h4:y.fE.fP.take (level+1)=ft.take (level+1)
  ·simp[h4]
  ·have h5:¬ ft.take (level+1)=y.fE.fP.take (level+1):=fun h=>h4 h.symm
   simp[h4,h5]
 ·have h2:¬ level+1<=y.fE.fP.length:=h1
  simp[h1,h2]
theorem MB (c:Int)(w:V)(n:Nat):VK prog 167 #[C Z c] (w.drewN n) fun e w''=>e=.returned (C Z (zK c))/\∃ m,w''=w.drewN m:=I2 (zgV _ _)
theorem Eu (p:D fB)(level:Nat):∀(n:Nat)(l:D gC),(pS p level n l).length<=n
 | 0,_=>Vz _
 | n+1,[]=>Vu _
 | n+1,x::r=>by
  unfold pS;split
  ·simp only[VC]
   have:=Eu p level n (r.drop (r.takeWhile (rE p level x.fE.fP (mA p x.fE level))).length);omega
  ·have:=Eu p level n r
   omega
theorem ie {α β:Type}{f:α->D β}{Ve:Nat}(h:∀ a,(f a).length<=Ve):∀ l:D α,(l.flatMap f).length<=l.length*Ve
 | []=>gm
 | a::l=>by
  have h1:=h a;have h2:=ie h l;rw[List.flatMap_cons,Vk,VC,Zi];omega
theorem F3 {U8:Nat}:∀(xs:D gC)(m:Nat),m<=U8->(∀ x∈xs,x.fE.fP.length<=U8)->xs.foldl (fun n x=>max n x.fE.fP.length) m<=U8
 | [],m,h,_=>h
 | x::r,m,h,hx=>F3 r _ (Nat.max_le.2 ⟨h,hx x (.head _)⟩) (fun y hy=>hx y (.tail _ hy))
theorem Nd (hl:xs.length<=100000)(hc:∀ x∈xs,x.fE.fP.length<=100):(nZ p xs).length<=10000000:=by
 unfold nZ;split
 ·have h1:=ie (f:=fun level=>pS p level xs.length xs) (Ve:=xs.length) (fun a=>Eu p a _ _) (List.range (vk xs))
  have h2:vk xs<=100:=F3 xs 0 fh hc;rw[List.length_range] at h1;have h3:vk xs*xs.length<=100*100000:=Za h2 hl;omega
 ·exact Vu _
theorem Np {cl:Int} {nm:G} (hc:x.fE.fP.getD level 0=cl)(hn:mA p x.fE level=nm)(h0:fQ x.fN)(h1:fQ (y.fN+zK y.fE.Op.Code))(h2:fQ (level:Int))(h3:fQ cl)(h4:(mA p x.fE level).size<=9223372036854775807) :
  mc.R w B [C Z x.fN,C Z (y.fN+zK y.fE.Op.Code),C Z level,C Z cl,Q nm] (AM p level x y):=by
 subst hc;subst hn;exact Im (x:=AM p level x y) h0 h1 h2 h3 h4
theorem yT {g:Prop} (f:g:=by
  have HD:=fk (lr.done hRun.out HXK.out hlv HYJ.out HNO.out)
  have hlen9:acc.length+1<=100000000:=by
   have h:=WY List.length hA.out
   rw[HD.out] at h
   simp only[Vk,VC] at h
   have h2:=HTL.out
   omega
  have hgwT:g<_:=Vn hgw (hG.out.trans HGT.out).size
  have hgcwT:gc<_:=Vn hgcw (hG.out.trans HGT.out).size
  go_upto_region 21 with(fail)
  go_quiet ((first | (go_at_call 167;with_reducible exact MB _ _ _)))
  go_upto_region 22 with(fail)
  go_region_held3 (fun w'=>Vg w' ⟨g,off+k*8,I⟩=F (C Z x.fN)/\Vg w' ⟨gc,oc+level,I⟩=F (C Z cl)) ((repeat' apply Vm) <;> ((repeat (first | with_reducible assumption | with_reducible refine zd ?_ _ _ | with_reducible refine zq ?_ _ | with_reducible refine zc ?_ | with_reducible refine ow ?_ _));done)) (first | (refine sv (L:=acc.length+1) rfl (.tmp 114) (.tmp 128) GI Gq ((hH.out.fH HGT.out).fH gF) (W1:=w) (B:=0) (ec:=[C Z x.fN,C Z (y.fN+zK y.fE.Op.Code),C Z level,C Z cl,Q nm]) (y:=AM p level x y) (Np HCL.out HNM.out b0 hyI ⟨fh,fh⟩ hclI (Mw hnm _ _)) rfl rfl rfl (by intro j u hu;simpa[go_sem] using hu) rfl fh fh ?_;intro A8 c8 W8 S8 hon hH8 hS8;have x0:=(hon.cell (g:=g) (Vn hgwT (fy.size gF)) hgS _).trans (za gF x0);have cc:=(hon.cell (g:=gc) (Vn hgcwT (fy.size gF)) hgcS _).trans (za gF cc)))
  all_goals go_wp2_with(fail)
  all_goals go_roundw
  exact⟨q+1,acc++[AM p level x y],A8,c8,S8,by rw[Vk];rfl,io,fh,fk (hon.fH ((hG.out.trans HGT.out).trans gF) hS.out),fk (by rw[Vk];exact hH8),fk (fun b hb=>(hS8 b hb).elim (hS.out b) (fun h=>VL (fy.size ((hG.out.trans HGT.out).trans gF)) h)),fk (by rw[<-hA.out,HD.out,VM,show k+1+j=q+1 from by rw[HQJ.out];omega];rfl)⟩
  exact iC):g:=f
theorem zqZ {B:N VQ} (hp:(zS.sl 99).R w w.heap.size [J A p.length c] p)(hpl:p.length<=1000000)(hps:∀ x∈p,x.gD.length<=1099511627776/\x.Expr.length<=1099511627776)(hnm:∀ x∈p,x.fJ.size<=9223372036854775807)
  (hx:(vW.sl 229).R w w.heap.size [J B xs.length d] xs) (hl:xs.length<=100000) (hch:∀ x∈xs,x.fE.fP.length<=100) :
  VK prog 128 #[J A p.length c,J B xs.length d] w (SX (nZ p xs) w):=by
 obtain⟨pb,aP⟩:∃ b,zA p=b:=⟨_,rfl⟩
 have ah:=fk aP;clear aP;have ab:p.length<=1099511627776:=fh;have aN:xs.length<=1000000:=fh;cases pb with
 | false=>
  have HE:Hid (nZ p xs = []):=fk (by unfold nZ;rw[Vo (by rw[ah.out];simp)]);go_enter func128,ntmps128;go_wp2_with(first | (go_at_call 102;refine(zaU (Ty.up _ hp gF) ab hps).mono ?_;rw[ah.out];rintro e w1 ⟨rfl,a8⟩));exact Vr (v:=J (F ⟨w.heap.size,0,I⟩) 0 0) (by simp[VF,results128,go_sem]) rfl (by rw[HE.out];exact⟨_,0,[w.heap.size],rfl,Has.iK mc (zj (Vj w (U #[] 214)) (fy.trans (b:=_) gF a8)),fun b hb=>by simp only[Vi] at hb;omega,fy.trans (b:=_) gF a8⟩)
 | true=>
 obtain⟨nb,an⟩:∃ b,sd xs=b:=⟨_,rfl⟩
 have ag:=fk an;clear an;cases nb with
 | false=>
  have HE:Hid (nZ p xs = []):=fk (by unfold nZ;rw[Vo (by rw[ag.out];simp)]);go_enter func128,ntmps128;go_wp2_with(first | (go_at_call 102;refine(zaU (Ty.up _ hp gF) ab hps).mono ?_;rw[ah.out];rintro e w1 ⟨rfl,a8⟩) | (go_at_call 168;refine(zpI (Ty.up _ hx (fy.trans (b:=_) gF a8)) aN).mono ?_;rw[ag.out];rintro e w2 ⟨rfl,am⟩));exact Vr (v:=J (F ⟨w.heap.size,0,I⟩) 0 0) (by simp[VF,results128,go_sem]) rfl (by rw[HE.out];exact⟨_,0,[w.heap.size],rfl,Has.iK mc (zj (Vj w (U #[] 214)) (fy.trans (b:=_) gF (a8.trans am))),fun b hb=>by simp only[Vi] at hb;omega,fy.trans (b:=_) gF (a8.trans am)⟩)
 | true=>
 have HE:=fk (Nf ah.out ag.out);have HTL:=fk (Nd (p:=p) hl hch);obtain⟨Vd,hD⟩:∃ Vd,vk xs=Vd:=⟨_,rfl⟩
 have bk:Vd<=100:=by rw[<-hD];exact F3 xs 0 fh hch
 have aD:=fk hD;clear hD;have aX:=fk hch;clear hch;go_enter func128,ntmps128;go_wp2_with(first | (go_at_call 102;refine(zaU (Ty.up _ hp gF) ab hps).mono ?_;rw[ah.out];rintro e w1 ⟨rfl,a8⟩) | (go_at_call 168;refine(zpI (Ty.up _ hx (fy.trans (b:=_) gF a8)) aN).mono ?_;rw[ag.out];rintro e w2 ⟨rfl,am⟩));have HW:=fk (a8.trans am);go_loopw [6,7] (fun z6 z7 wr=>∃(k m:Nat),z6=C Z m/\z7=C Z k/\k<=xs.length/\m<=100/\Hid (fy w2 wr)/\Hid ((xs.drop k).foldl (fun n x=>max n x.fE.fP.length) m=Vd)) (fun _ z7 _=>xs.length-(Wj z7).toNat)
 case atStart=>exact⟨0,0,rfl,rfl,Vu _,Vu _,fk gF,aD⟩
 case round=>
 obtain⟨k,m,rfl,rfl,hk,hm,ai,hN⟩:=hrel;by_cases hlt:k<xs.length
 ·obtain⟨g,off,x,aT,b7,rfl,bl,ae,x0,x1,x2,x3,x4,x5,x6,x7,_⟩:=vi hx hlt
  have aM:(k:Int)<(xs.length:Int):=fh;have be:Vl Z ((k:Int)+1)=(k:Int)+1:=iw;have al:=aX.out x (Vx ae);have x5:=za ((fy.trans (b:=_) gF HW.out).trans ai.out) x5;have HA:=fk (Tk ae m);clear ae;by_cases hmx:m<x.fE.fP.length
  ·have bc:(m:Int)<(x.fE.fP.length:Int):=fh
   have HM:Hid (max m x.fE.fP.length=x.fE.fP.length):=fk (Nat.max_eq_right fh);go_wp2_with(fail);go_roundw;exact⟨k+1,x.fE.fP.length,rfl,io,fh,al,ai,fk (by rw[<-hN.out,HA.out,HM.out])⟩;exact iC
  ·have bc:¬ ((m:Int)<(x.fE.fP.length:Int)):=fh
   have HM:Hid (max m x.fE.fP.length=m):=fk (Nat.max_eq_left fh);go_wp2_with(fail);go_roundw;exact⟨k+1,m,rfl,io,fh,hm,ai,fk (by rw[<-hN.out,HA.out,HM.out])⟩;exact iC
 obtain rfl:k=xs.length:=fh;have av:¬ ((xs.length:Int)<(xs.length:Int)):=fh;obtain rfl:m=Vd:=by have h:=hN.out;rw[VW] at h;exact h
 have aK:fy w wr:=(fy.trans (b:=_) gF HW.out).trans ai.out;have aG:Has (mc.sl 214) wr [J (F ⟨w.heap.size,0,I⟩) 0 0] [] [w.heap.size]:=Has.iK mc (zj (Vj w (U #[] 214)) (HW.out.trans ai.out));have b4:=fk aG;have aZ:=fk aK;clear aG aK;go_wp2_with(fail);clear av;go_loopw [5,8] (fun z5 z8 wr=>∃(level:Nat) (acc:D gL) (A5:N VQ) (c5:Nat) (S:D Nat),z5=J A5 acc.length c5/\z8=C Z level/\level<=m/\Hid (fy w wr)/\Hid (Has (mc.sl 214) wr [J A5 acc.length c5] acc S)/\Hid (∀ b∈S,w.heap.size<=b)/\Hid (acc++(Yj level (m-level)).flatMap (fun lv=>rK p lv xs)=nZ p xs)) (fun _ z8 _=>m-(Wj z8).toNat)
 case atStart=>exact⟨0,[],_,0,[w.heap.size],rfl,rfl,Vu _,aZ,b4,fk (fun b hb=>by simp only[Vi] at hb;omega),fk (by rw[HE.out,aD.out];rfl)⟩
 case round=>
 obtain⟨level,a7,ao,ar,S0,rfl,rfl,bn,aF,aH,aI,aE⟩:=hrel;by_cases hlt:level<m
 ·have bb:(level:Int)<(m:Int):=fh
  have bf:Vl Z ((level:Int)+1)=(level:Int)+1:=iw;obtain⟨a9,a4⟩:∃ R,(Yj (level+1) (m-(level+1))).flatMap (fun lv=>rK p lv xs)=R:=⟨_,rfl⟩
  have HR:=fk a4;have aW:Hid (a7++(rK p level (xs.drop 0)++a9)=nZ p xs):=fk (by rw[<-aE.out,Rk hlt,a4];rfl);have a3:level<=1000:=fh;have aw:level+1<=1000000:=fh;clear a4;go_wp2_with(fail);go_loopw [5,9] (fun z5 z9 wr=>∃(k:Nat) (acc:D gL) (A5:N VQ) (c5:Nat) (S:D Nat),z5=J A5 acc.length c5/\z9=C Z k/\k<=xs.length/\Hid (fy w wr)/\Hid (Has (mc.sl 214) wr [J A5 acc.length c5] acc S)/\Hid (∀ b∈S,w.heap.size<=b)/\Hid (acc++(rK p level (xs.drop k)++a9)=nZ p xs)) (fun _ z9 _=>xs.length-(Wj z9).toNat)
  case atStart=>exact⟨0,a7,ao,ar,S0,rfl,rfl,Vu _,aF,aH,aI,aW⟩
  case round=>
  obtain⟨k,acc,A5,c5,S,rfl,rfl,hk,hG,hH,hS,hA⟩:=hrel;by_cases hlt:k<xs.length
  ·obtain⟨g,off,x,aT,b7,rfl,hgw,ae,x0,x1,x2,x3,x4,x5,x6,x7,b0,b1,b2,b3,h5,b6⟩:=vi hx hlt
   have aM:(k:Int)<(xs.length:Int):=fh;have be:Vl Z ((k:Int)+1)=(k:Int)+1:=iw;have x0:=za hG.out x0;have x1:=za hG.out x1;have x2:=za hG.out x2;have x3:=za hG.out x3;have x4:=za hG.out x4;have x5:=za hG.out x5;have x6:=za hG.out x6;have x7:=za hG.out x7;have HXK:=fk ae;clear ae;by_cases hlv:level<x.fE.fP.length
   ·have ax:¬ ((x.fE.fP.length:Int)<=(level:Int)):=fh
    have aO:(level:Int)<(x.fE.fP.length:Int):=fh;obtain⟨gc,oc,cl,au,al,cc,hclI⟩:=ma h5 hlv;have hgcw:=Wf _ _ cc;simp only at hgcw;have cc:=za hG.out cc;have HCL:Hid (x.fE.fP.getD level 0=cl):=fk (by rw[VR,al];rfl);have hgS:g∉S:=fun hm=>by have h:=hS.out g hm;omega
    have hgcS:gc∉S:=fun hm=>by have h:=hS.out gc hm;omega
    have az:=Ty.up _ h5 hG.out;obtain⟨nm,ak⟩:∃ s,mA p x.fE level=s:=⟨_,rfl⟩
    have HNM:=fk ak;subst au;have b9:=fk hH.out;clear al ak;go_wp2_with(first | (go_at_call 169;refine(zhZ (x:=x) (Ty.up _ hp (hG.out.trans gF)) hpl (Ty.up _ az gF) a3).mono ?_;rintro e w5 ⟨rfl,aJ⟩));have aj:fy wr w5:=fy.trans (b:=_) gF aJ;have af:=fk aj;obtain⟨wq,aR⟩:∃ q,wr=q:=⟨_,rfl⟩
    rw[aR] at hG hH af x0 x1 x2 x3 x4 x5 x6 x7 cc az b9;clear aj aJ aR;rw[HNM.out];go_loopw [11] (fun z11 wr=>∃ q j:Nat,z11=C Z q/\q<xs.length/\k<=q/\Hid (q=k+j)/\Hid (fy wq wr)/\Hid (lr (rE p level x.fE.fP (mA p x.fE level)) xs k j)) (fun z11 _=>xs.length-(Wj z11).toNat)
    case atStart=>exact⟨k,0,rfl,hlt,Vz _,fk rfl,af,fk (PD _ _ _)⟩
    case round=>
     obtain⟨q,j,rfl,bd,bm,HQJ,a2,hRun⟩:=hrel;obtain⟨g',ac,y,bi,bj,aa,_,aB,y0,y1,_,_,_,_,_,_,bt,_⟩:=vi hx bd;injection aa with aa
     injection aa with hBB1 hBB2
     obtain rfl:g=g':=hBB1;obtain rfl:off=ac:=hBB2;have bp:(q:Int)<(xs.length:Int):=fh;have bg:Vl Z ((q:Int)+1)=(q:Int)+1:=iw;have a1:=hG.out.trans a2.out;have y0:=za a1 y0;have y1:=za a1 y1;have x0:=za a2.out x0;have cc:=za a2.out cc;have aA:=Ty.up _ az a2.out;have ba:g<wr.heap.size:=by have:=a1.size;omega
     have aL:gc<wr.heap.size:=by have:=a1.size;omega
     have HYJ:Hid (xs[k+j]?=F y):=fk (by rw[<-HQJ.out];exact aB);have bs:=Ju ag.out aB;have bo:=CX y.fE.Op.Code;have hyI:fQ (y.fN+zK y.fE.Op.Code):=⟨fh,fh⟩
     have br:Vl Z (y.fN+zK y.fE.Op.Code)=y.fN+zK y.fE.Op.Code:=iw;clear aB;by_cases hqn:q+1<xs.length
     ·obtain⟨g',ac,z,aU,b8,aa,_,aS,z0,z1,z2,z3,z4,z5,z6,z7,_,_,_,_,bh,_⟩:=vi hx hqn
      injection aa with aa
      injection aa with hBB1 hBB2
      obtain rfl:g=g':=hBB1;obtain rfl:off=ac:=hBB2;have ay:(q:Int)+1<(xs.length:Int):=fh;have bq:((q:Int)+1).toNat=q+1:=fh;have z0:=za a1 z0;have z1:=za a1 z1;have z2:=za a1 z2;have z3:=za a1 z3;have z4:=za a1 z4;have z5:=za a1 z5;have z6:=za a1 z6;have z7:=za a1 z7;have aC:=Ty.up _ bh a1;have aq:Hid (xs[k+1+j]?=F z):=fk (by rw[show k+1+j=k+j+1 from fh,<-HQJ.out];exact aS);clear aS;obtain⟨sb,aQ⟩:∃ b,sR x.fE.fP z.fE.fP (level+1)=b:=⟨_,rfl⟩
      have ad:=fk aQ;clear aQ;have ap:=fk (QS (p:=p) (name:=mA p x.fE level) (y:=z) hlv);have a6:=zzt (n:=level+1) (Ty.up _ aA (fy.refl _)) aC aw;rw[show ((level+1:Nat):Int)=(level:Int)+1 from rfl] at a6;cases sb with
      | true=>
       by_cases hnz:mA p z.fE level=nm
       ·have an:((mA p z.fE level).toList == nm.toList)=H:=by rw[mb];simpa using hnz
        have aY:=fk (hRun.out.next aq.out (by rw[ap.out,ad.out,HNM.out,hnz];simp));clear hnz;go_wp2_with(first | (go_at_call 170;refine a6.mono ?_;rw[ad.out];rintro e v1 ⟨rfl,a0⟩;have z0:=za a0 z0;have z1:=za a0 z1;have z2:=za a0 z2;have z3:=za a0 z3;have z4:=za a0 z4;have z5:=za a0 z5;have z6:=za a0 z6;have z7:=za a0 z7;have y0:=za a0 y0;have y1:=za a0 y1;have x0:=za a0 x0;have cc:=za a0 cc) | (go_at_call 169;refine(zhZ (x:=z) (Ty.up _ hp (a1.trans (a0.trans gF))) hpl (Ty.up _ aC (a0.trans gF)) a3).mono ?_;rintro e v2 ⟨rfl,a5⟩;have y0:=za a5 y0;have y1:=za a5 y1;have x0:=za a5 x0;have cc:=za a5 cc));go_roundw;exact⟨q+1,j+1,io,hqn,fh,fk (by rw[HQJ.out];omega),fk ((a2.out.trans a0).trans a5),aY⟩;exact iC
       ·have an:((mA p z.fE level).toList == nm.toList)=M:=by rw[mb];simpa using hnz
        have HNO:=fk (show ∀ u,xs[k+1+j]?=F u->rE p level x.fE.fP (mA p x.fE level) u=M from fun u hu=>by rw[aq.out] at hu;injection hu with hu;rw[<-hu,ap.out,ad.out,HNM.out];simpa using hnz);clear hnz;go_wp2_with(first | (go_at_call 170;refine a6.mono ?_;rw[ad.out];rintro e v1 ⟨rfl,a0⟩;have z0:=za a0 z0;have z1:=za a0 z1;have z2:=za a0 z2;have z3:=za a0 z3;have z4:=za a0 z4;have z5:=za a0 z5;have z6:=za a0 z6;have z7:=za a0 z7;have y0:=za a0 y0;have y1:=za a0 y1;have x0:=za a0 x0;have cc:=za a0 cc) | (go_at_call 169;refine(zhZ (x:=z) (Ty.up _ hp (a1.trans (a0.trans gF))) hpl (Ty.up _ aC (a0.trans gF)) a3).mono ?_;rintro e v2 ⟨rfl,a5⟩;have y0:=za a5 y0;have y1:=za a5 y1;have x0:=za a5 x0;have cc:=za a5 cc));have HGT:=fk (a2.out.trans (a0.trans a5));exact yT
      | false=>
       have HNO:=fk (show ∀ u,xs[k+1+j]?=F u->rE p level x.fE.fP (mA p x.fE level) u=M from fun u hu=>by rw[aq.out] at hu;injection hu with hu;rw[<-hu,ap.out,ad.out];rfl);go_wp2_with(first | (go_at_call 170;refine a6.mono ?_;rw[ad.out];rintro e v1 ⟨rfl,a0⟩;have z0:=za a0 z0;have z1:=za a0 z1;have z2:=za a0 z2;have z3:=za a0 z3;have z4:=za a0 z4;have z5:=za a0 z5;have z6:=za a0 z6;have z7:=za a0 z7;have y0:=za a0 y0;have y1:=za a0 y1;have x0:=za a0 x0;have cc:=za a0 cc));have HGT:=fk (a2.out.trans a0);exact yT
     ·have ay:¬ ((q:Int)+1<(xs.length:Int)):=fh
      have HNO:=fk (show ∀ u,xs[k+1+j]?=F u->rE p level x.fE.fP (mA p x.fE level) u=M from fun u hu=>by have h1:=(Vh.1 hu).1;have h2:=HQJ.out;omega);go_wp2_with(fail);have HGT:=fk (a2.out);exact yT
   ·have ax:(x.fE.fP.length:Int)<=(level:Int):=fh
    have b5:=fk (P6 (p:=p) HXK.out hlv);go_wp2_with(fail);go_roundw;exact⟨k+1,acc,A5,c5,S,rfl,io,fh,hG,hH,hS,fk (by rw[<-hA.out,b5.out])⟩;exact iC
  ·obtain rfl:k=xs.length:=fh
   have aM:¬ ((xs.length:Int)<(xs.length:Int)):=fh;have aV:Hid (acc++a9=nZ p xs):=fk (by rw[<-hA.out,VW];rfl);go_wp2_with(fail);go_roundw;exact⟨level+1,acc,A5,c5,S,rfl,io,fh,hG,hH,hS,fk (by rw[HR.out];exact aV.out)⟩;exact iC
 ·obtain rfl:level=m:=fh
  have bb:¬ ((level:Int)<(level:Int)):=fh;have HQ:Hid (a7=nZ p xs):=fk (by rw[<-aE.out,Ws];simp);go_wp2_with(fail);exact Vr (v:=J ao a7.length ar) (by simp[VF,results128,go_sem]) rfl (by rw[<-HQ.out];exact⟨ao,ar,S0,rfl,aH.out,aI.out,aF.out⟩)
end Go.Proofs.YthgbglbaemelhaaGreat
