/-
  PART.
-/
import Derived.Test.YthgbglbaemelhaaGreatM19LawSlices
import Derived.Test.YthgbglbaemelhaaGreatM20LawSlices
import Derived.Test.YthgbglbaemelhaaGreatM27LawSlices
set_option linter.unusedVariables false
set_option linter.unusedSimpArgs false
set_option maxRecDepth 100000
set_option maxHeartbeats 8000000
namespace Go.Proofs.YthgbglbaemelhaaGreat
open Value renaming slice->G,int->J,bool->H,string->V
open IntKind renaming i64->C,wrap->QP
open Option renaming none->D,some->Z,map_some->Tm
open Obj renaming cells->F
open Bool renaming false->I,true->M
open Go renaming World->U,results->Rd,Calls->Rh,Addr->Ri
open World renaming cell?->QL,frozen?->Rb,setCell->RQ
open RowKit renaming intOf->Ry
open List renaming nil_append->RC,length_singleton->RD
open _root_.Nat renaming add_zero->RK
open _root_.Array renaming length_toList->RM
open Tryz
open Go.RowKit
variable {A:X Ri}{B c k m n:Nat}{S:Q Nat}{W w:U}{acc:Q gJ}{e:TypeId}{hi:Int}{q:gJ}{v:Value}{x:fL}{xs:Q fL}
theorem C5 {α:Type} {T:Ty α} {xs:Q α} (h:Has (T.sl e) w [G A n c] xs S){k:Nat}{x:α}(hx:xs[k]?=Z x) :
  ∃ g ec Sc,A=Z ⟨g,0,D⟩/\g∈S/\g<w.heap.size/\g∉Sc/\(∀ j∈Sc,j∈S)/\Has T w ec x Sc/\(∀ j,Rb w ⟨g,j,D⟩=I)/\(∀ j u,ec[j]?=Z u->QL w ⟨g,k*T.size+j,D⟩=Z u)/\
   (∀ ec' y Sy,Has T w ec' y Sy->(∀ b∈Sy,b∉S∨b∈Sc)->fw [g] w (setRow w g (k*T.size) 0 ec')/\∃ S',Has (T.sl e) (setRow w g (k*T.size) 0 ec') [G A n c] (xs.set k y) S'/\∀ b∈S',b∈S∨b∈Sy):=by
 obtain⟨h,hS⟩:=h;obtain⟨A',c',av,S',h1,h2,h3,rfl⟩:=h;injection h1 with h1 _
 injection h1 with hA hn hc
 subst hA hn hc;have hk:k<xs.length:=(QM.1 hx).1;obtain⟨a,ec,b,Sa,Sc,Sb,rfl,rfl,hl,ha,hO,hb⟩:=Rows.part h3 hx;obtain⟨a7,a8⟩:=h2;rcases a8 with⟨_,hn⟩ | ⟨g,au,a2,hv,a5,hg,ar,ak,al,a1⟩
 ·omega
 ·injection hv with hA _ hc
  subst hA hc;have am:g<w.heap.size:=(blt hg)
  simp only[kj,List.singleton_append,TA,Rs,Q7,not_or] at hS;obtain⟨⟨ah,aj,ai⟩,ap,⟨ac,aq,ab⟩,ae⟩:=hS;have af:ec.length=T.size:=T.ju hO
  have aw:(a++(ec++b)).length<=a2.size:=by
   rw[<-a1,Sj];have:a2.toList.length=a2.size:=RM;omega
  have a6:∀(j:Nat) (u:Value),(a++(ec++b))[j]?=Z u->a2[j]?=Z u:=by
   intro j u hu;rw[<-a1,Sn] at hu;split at hu
   ·simpa using hu
   ·cases hu
  refine⟨g,ec,Sc,rfl,by simp[kj],am,aj,fun j hj=>by simp[hj],⟨hO,ac⟩,fun j=>by simp[Rb,hg],fun j u hu=>?_,fun ec' y Sy hy hSy=>?_⟩
  ·rw[RV w g _ a2 e (0,0) hg]
   apply a6;exact rM
  ·obtain⟨hy,ao⟩:=hy
   have ag:g∉Sy:=fun hm=>by
    rcases hSy g hm with h | h
    ·exact h (by simp[kj])
    ·exact aj h
   have a9:∀ b∈Sy,b∉Sa:=fun i hi hm=>by
    rcases hSy i hi with h | h
    ·exact h (by simp[hm])
    ·exact ae i hm i (.inl h) rfl
   have aa:∀ b∈Sy,b∉Sb:=fun i hi hm=>by
    rcases hSy i hi with h | h
    ·exact h (by simp[hm])
    ·exact ab i h i hm rfl
   have a3:ec'.length=T.size:=T.ju hy;have a0:∀ i,i≠g->(setRow w g (k*T.size) 0 ec').heap[i]?=w.heap[i]?:=fun i hi=>JJ _ _ _ _ _ _ hi;have an:(a++(ec++b)).length=a.length+ec.length+b.length:=by simp only[QR];omega
   refine⟨KZ _ (by simp) _ _ _ _ (fw.refl _ _),kj (Z ⟨g,0,D⟩)++(Sa++(Sy++Sb)),⟨⟨Z ⟨g,0,D⟩,c,a++(ec'++b),_,by rw[Rn],⟨?_,.inr ⟨g,c,xe a2 (k*T.size) 0 ec',by rw[Rn],a5,NP _ _ _ _ _ _ _ hg,by simpa using ar,ak,by rw[NN];exact al,?_⟩⟩,Rows.join hx (Rows.fJ ha ?_) (T.gD hy ?_) (Rows.fJ hb ?_),rfl⟩,?_⟩,?_⟩
   ·rw[Rn,<-a7]
    simp[af,a3]
   ·rw[Rn]
    rw[EC,Po _ _ _ _ (by rw[a3];have:a2.toList.length=a2.size:=RM;omega)];have hM:xs.length*T.size=a.length+ec.length+b.length:=by rw[<-a7,an]
    have e1:a2.toList.take (k*T.size+0)=a:=by
     have h:=Sg (List.take (k*T.size)) a1;rw[List.take_take,UQ (by omega)] at h;rw[RK,h,List.take_append_of_le_length (TD hl.symm),R7 (TD hl)]
    have e2:(a2.toList.drop (k*T.size+0+ec'.length)).take (xs.length*T.size-(k*T.size+T.size))=b:=by
     have h:=Sg (List.drop (k*T.size+T.size)) a1;have ad:(a++ec).length=k*T.size+T.size:=by rw[QR,hl,af]
     rw[List.drop_take,<-Rw,List.drop_append_of_le_length (TD ad.symm),List.drop_of_length_le (TD ad),RC] at h;rw[a3,RK];exact h
    have a4:(a++ec').length=k*T.size+T.size:=by rw[QR,hl,a3]
    rw[e1,<-Rw,List.take_append,R7 (by rw[a4];omega),a4,e2,Rw]
   ·exact fun i hi=>a0 i (fun e=>ah (e ▸ hi))
   ·exact fun i hi=>a0 i (fun e=>ag (e ▸ hi))
   ·exact fun i hi=>a0 i (fun e=>ai (e ▸ hi))
   ·simp only[kj,List.singleton_append,TA,Rs,Q7,not_or]
    refine⟨⟨ah,ag,ai⟩,ap,⟨ao,aq,fun i hi j hj he=>aa i hi (he ▸ hj)⟩,fun i hi j hj he=>?_⟩;rcases hj with hj | hj
    ·exact a9 j hj (he ▸ hi)
    ·exact ae i hi j (.inr hj) he
   ·intro i hi
    simp only[Q7] at hi |-;rcases hi with hi | hi | hi | hi
    ·exact .inl (.inl hi)
    ·exact .inl (.inr (.inl hi))
    ·exact .inr hi
    ·exact .inl (.inr (.inr (.inr hi)))
def IQ (xs:Q fv)(w:U)(r:Ending)(w':U):Prop:=∃ A c S,r=.returned (G A xs.length c)/\Has (zJ.sl 99) w' [G A xs.length c] xs S/\(∀ b∈S,w.heap.size<=b)/\ft w w'
theorem zsg {xs:Q fv} (hx:(zJ.sl 99).R w w.heap.size [G A xs.length c] xs)(hl:xs.length<=1099511627776)(hs:∀ x∈xs,x.fM.length<=1099511627776/\x.Expr.length<=1099511627776) :
  Rh prog 201 #[G A xs.length c] w (IQ xs w):=by
 go_enter func201,ntmps201;go_wp2_with(fail);go_loopw [3,4] (fun z j wr=>∃(k:Nat) (A5:X Ri) (c5:Nat) (S:Q Nat),z=G A5 k c5/\j=J C k/\k<=xs.length/\Hid (ft w wr)/\Hid (Has (zJ.sl 99) wr [G A5 k c5] (xs.take k) S)/\Hid (∀ b∈S,w.heap.size<=b)) (fun _ j _=>xs.length-(Ry j).toNat)
 case atStart=>exact⟨0,_,0,[w.heap.size],rfl,rfl,QX _,fh gF,fh (Has.emp zJ (zj (QO _ _) gF)),fh (fun b hb=>by simp only[QN] at hb;omega)⟩
 case round=>
  obtain⟨k,A5,c5,S,rfl,rfl,hk,hG,hH,hS⟩:=hrel;by_cases hlt:k<xs.length
  ·obtain⟨g,am,x,ab,af,ac,ag,rfl,aj,a1,x0,x1,x2,x3,b0,b1,h2,h3⟩:=lK hx hlt
   have a6:(k:Int)<(xs.length:Int):=by omega
   have x0:=za hG.out x0;have x1:=za hG.out x1;have x2:=za hG.out x2;have x3:=za hG.out x3;obtain⟨a7,a8⟩:=hs x (Q9 a1);have aa:Hid (xs.take k++[x]=xs.take (k+1)):=fh (by rw[RH,a1];rfl);clear a1;have u2:=h2;have u3:=h3;go_wp2_with(first | (go_at_call 208;(with_reducible refine(zqf (x:=x) b0 b1 ((iH.sl 9).fx u2 hG.out (Q8 _) |> fun h=>(iH.sl 9).iG h (fun _ _=>rfl) hG.out.size) ((iZ.sl 160).fx u3 hG.out (Q8 _) |> fun h=>(iZ.sl 160).iG h (fun _ _=>rfl) hG.out.size) a7 a8).mono ?_);rintro e v2 ⟨ad,ah,ae,ai,SF,rfl,a4,a2,a0⟩) | (refine zC (L:=k+1) rfl (.tmp 12) (.tmp 18) mT (S:=S) (hH.out.fx (ft.trans (b:=_) gF (a0.trans gF))) (a4.fx gF) (fun b hb hm=>by have h1:=a2 b hm;have h2:=hH.out.lt b hb;omega) rfl rfl rfl (by intro j u hu;simpa[go_sem] using hu) rfl (by omega) (by omega) ?_;intro A8 c8 W8 S8 a9 a3 a5));go_roundw
   case measure=>exact gH
   case rel=>
    have al:=a0.size;have ak:=hG.out.size;refine⟨k+1,A8,c8,S8,rfl,by go_num,by omega,fh (a9.fx (hG.out.trans (a0.trans gF)) hS.out),fh (by rw[<-aa.out];exact a3),fh (fun b hb=>?_)⟩;rcases a5 b hb with h | h | h
    ·exact hS.out b h
    ·have:=a2 b h;omega
    ·(try simp at h);omega
  ·obtain rfl:k=xs.length:=by omega
   have a6:¬ ((xs.length:Int)<(xs.length:Int)):=by omega
   go_wp2_with(fail);refine QU (v:=G A5 xs.length c5) (by simp[Rd,results201,go_sem]) rfl ⟨A5,c5,S,rfl,?_,hS.out,hG.out⟩;have h:=hH.out;rw[RX] at h;exact h
theorem Bv {a:Ri} (h:W.cell? a=Z v):W.setCell a v=W:=by
 unfold QL at h;unfold RQ;split at h
 ·rename_i c e f hc
  split at h
  ·cases h
  ·rename_i hs
   have:W.heap.modify a.block (fun
    | F c elem frozen=>F (if a.spot.isSome then c else c.setIfInBounds a.off v) elem frozen
    | o=>o)=W.heap:=by
    apply Ud
    intro i
    rw[Uo]
    split
    ·rename_i hi
     subst hi;rw[hc];simp only[Tm,hs,QZ,Bool.false_eq_true,not_false_eq_true];congr 2;apply Ud;intro k;rw[Array.getElem?_setIfInBounds];split
     ·rename_i hk
      subst hk;split
      ·exact h.symm
      ·rename_i hk2
       rw[To (by omega)]
     ·rfl
    ·rfl
   exact Sg (fun h=>({ W with heap:=h }:U)) this
 ·cases h
theorem GB {xs:Q fv} (h:Has (zJ.sl e) w [G A n c] xs S){k:Nat}{x:fv}(hx:xs[k]?=Z x) :
  ∃ g,A=Z ⟨g,0,D⟩/\g∈S/\g<w.heap.size/\(∀ j,Rb w ⟨g,j,D⟩=I)/\(∃ u,QL w ⟨g,k*4+3,D⟩=Z u)/\
   (∀(ys:Q gB) (Ay:X Ri) (cy:Nat) (Sy:Q Nat),Has (iZ.sl 160) w [G Ay ys.length cy] ys Sy->(∀ b∈Sy,b∉S)->
    fw [g] w (w.setCell ⟨g,k*4+3,D⟩ (G Ay ys.length cy))/\∃ S',Has (zJ.sl e) (w.setCell ⟨g,k*4+3,D⟩ (G Ay ys.length cy)) [G A n c] (xs.set k { x with Expr:=ys }) S'/\∀ b∈S',b∈S∨b∈Sy):=by
 obtain⟨g,ec,Sc,h1,h2,h3,h4,h5,h6,h7,h8,h9⟩:=C5 h hx;obtain⟨A0,c0,S0,A1,c1,S1,rfl,rfl,b0,b1,a0,a1⟩:=OW h6.1;have hz:zJ.size=4:=rfl;rw[hz] at h8 h9;have k0:=h8 0 _ rfl;have k1:=h8 1 _ rfl;have k2:=h8 2 _ rfl;have k3:=h8 3 _ rfl;refine⟨g,h1,h2,h3,h7,⟨_,k3⟩,fun ys Ay cy Sy hy hd=>?_⟩;have hn:=(Rs.1 h6.2).1
 obtain⟨g1,S',g2,g3⟩:=h9 [J C x.Kind,V x.Name,G A0 x.fM.length c0,G Ay ys.length cy] { x with Expr:=ys } (S0++Sy) (CH (x:={ x with Expr:=ys }) b0 b1 ⟨a0,hn⟩ hy (fun b hb hm=>hd b hm (h5 b (by simp[hb])))) (fun b hb=>by
  rcases Q7.1 hb with hm | hm
  ·exact .inr (by simp[hm])
  ·exact .inl (hd b hm))
 have hw:setRow w g (k*4) 0 [J C x.Kind,V x.Name,G A0 x.fM.length c0,G Ay ys.length cy]=w.setCell ⟨g,k*4+3,D⟩ (G Ay ys.length cy):=by
  simp only[setRow,Rk];rw[Bv k0,Bv k1,Bv k2]
 rw[hw] at g1 g2;refine⟨g1,S',g2,fun b hb=>?_⟩;rcases g3 b hb with hm | hm
 ·exact .inl hm
 ·rcases Q7.1 hm with hm | hm
  ·exact .inl (h5 b (by simp[hm]))
  ·exact .inr hm
def ox (xs:Q fv)(k:Nat):Q fv:=(xs.take k).map jU++xs.drop k
theorem OK (xs:Q fv){k:Nat}(h:k<=xs.length):(ox xs k).length=xs.length:=by unfold ox;simp;omega
theorem Hf {xs:Q fv} {x:fv} (h:xs[k]?=Z x):(ox xs k)[k]?=Z x:=by
 have hk:=(QM.1 h).1;unfold ox;rw[RF (by simp;omega)];simp[UQ (UO hk),h]
theorem G8 {xs:Q fv} {x:fv} (h:xs[k]?=Z x):(ox xs k).set k (jU x)=ox xs (k+1):=by
 obtain⟨hk,rfl⟩:=QM.1 h;unfold ox;have hl:((xs.take k).map jU).length=k:=by simp;omega
 rw[Up _ _ (by omega),hl,RP,Q6 hk,List.set_cons_zero,RH,h,TR,Rw];rfl
theorem MK {xs:Q fv} {x:fv} (h:xs[k]?=Z x)(h0:jU x=x):ox xs k=ox xs (k+1):=by
 obtain⟨a0,a1⟩:=QM.1 (Hf h);rw[<-G8 h,h0];have e:=List.set_getElem_self a0;rw[a1] at e;exact e.symm
theorem zqs {xs:Q fv} (hx:(zJ.sl 99).R w w.heap.size [G A xs.length c] xs)(hl:xs.length<=1099511627776)(hs:∀ x∈xs,x.fM.length<=1099511627776/\x.Expr.length<=1099511627776) :
  Rh prog 195 #[G A xs.length c] w (IQ (qo xs) w):=by
 rcases RB (zv xs) with hp | hp
 rotate_left
 ·have HP:=fh hp
  have HF:Hid (qo xs = []):=fh (by unfold qo;rw[QZ (by rw[hp];decide)]);clear hp;go_enter func195,ntmps195;go_wp2_with(first | (go_at_call 102;(with_reducible refine(zaD hx hl hs).mono ?_);rw[HP.out];rintro e1 v1 ⟨rfl,a2⟩));refine QU (v:=G (Z ⟨v1.heap.size,0,D⟩) 0 0) (by simp[Rd,results195,go_sem]) rfl ?_;exact⟨Z ⟨v1.heap.size,0,D⟩,0,[v1.heap.size],by rw[HF.out];rfl,by rw[HF.out];exact Has.emp zJ (QO _ _),fun b hb=>(by simp only[QN] at hb;subst hb;exact a2.size),a2.trans gF⟩
 have HP:=fh hp;have HF:Hid (qo xs=xs.map jU):=fh (by unfold qo;rw[Q5 hp]);clear hp;go_enter func195,ntmps195;go_wp2_with(first | (go_at_call 102;(with_reducible refine(zaD hx hl hs).mono ?_);rw[HP.out];rintro e1 v1 ⟨rfl,a2⟩) | (go_at_call 201;(with_reducible refine(zsg (Ty.up _ hx (a2.trans gF)) hl hs).mono ?_);rintro e2 v2 ⟨A2,c2,S2,rfl,am,ap,ar⟩));have aa:ft w v2:=a2.trans (ft.trans (b:=_) gF ar);have a9:∀ b∈S2,w.heap.size<=b:=fun b hb=>by have h1:=ap b hb;have h2:=a2.size;(try simp at h1);omega
 go_loopw [4] (fun j wr=>∃(k:Nat) (S:Q Nat),j=J C k/\k<=xs.length/\Hid (ft w wr)/\Hid (Has (zJ.sl 99) wr [G A2 xs.length c2] (ox xs k) S)/\Hid (∀ b∈S,w.heap.size<=b)) (fun j _=>xs.length-(Ry j).toNat)
 case atStart=>exact⟨0,S2,rfl,QX _,fh (aa.trans gF),fh (by unfold ox;simpa using am.fx gF),fh a9⟩
 case round=>
  obtain⟨k,S,rfl,hk,hG,hH,hS⟩:=hrel;by_cases hlt:k<xs.length
  ·have a0:xs[k]?=Z xs[k]:=QW hlt
   obtain⟨x,ag⟩:∃ x,xs[k]=x:=⟨_,rfl⟩
   rw[ag] at a0;have aF:=OK xs hk;have a3:=Hf a0;obtain⟨g,aI,x',aA,aC,aB,aD,a6,aE,a1,x0,x1,x2,x3,b0,b1,h2,h3⟩:=lK hH.out.read (k:=k) (by omega);obtain rfl:x'=x:=by rw[a3] at a1;injection a1 with h;exact h.symm
   obtain⟨g9,ab,au,af,ad,⟨u,hu⟩,a4⟩:=GB hH.out a3;rw[ab] at a6;injection a6 with a6
   injection a6 with e1 e2
   subst e1 e2;subst ab;have ax:(k:Int)<(xs.length:Int):=by omega
   have az:=(hs x' (Q9 a0)).2;simp only[Rk] at x0 x1 x2 x3;clear ag a1;by_cases h0:0<x'.Expr.length
   ·have aj:(x'.Expr.length:Int) > 0:=by omega
    have ak:0<(x'.Expr.length:Int):=by omega
    have ah:Hid (jU x' = { x' with Expr:=qQ x'.Expr }):=fh (by unfold jU;rw[Q5 h0]);have a7:Hid ((ox xs k).set k (jU x')=ox xs (k+1)):=fh (G8 a0);have ai:=fh a3;clear h0 a0 a3 a4 ad hu af;go_wp2_with(first | (go_at_call 202;(with_reducible refine(zqr (Ty.up _ h3 gF) az).mono ?_);rintro e3 v3 ⟨A4,c4,S4,rfl,an,ac,ae⟩;obtain⟨g',a8,av,aw,aq,⟨u',aG⟩,a5⟩:=GB (hH.out.fx (ft.trans (b:=_) gF ae)) ai.out;injection a8 with a8;injection a8 with e1 e2;subst e1));go_roundw
    case measure=>exact gH
    case rel=>
     have aH:=hG.out.size;obtain⟨ay,S',al,ao⟩:=a5 (qQ x'.Expr) A4 c4 S4 an (fun b hb hm=>by have h1:=ac b hb;have h2:=hH.out.lt b hm;(try simp at h1);omega);refine⟨k+1,S',by go_num,by omega,fh ((ay.fx (hG.out.trans (ft.trans (b:=_) gF ae)) (fun b hb=>by simp only[QN] at hb;subst hb;exact hS.out _ au)).trans gF),fh ?_,fh (fun b hb=>?_)⟩
     ·rw[<-a7.out,ah.out];exact al.fx gF
     ·rcases ao b hb with h | h
      ·exact hS.out b h
      ·have:=ac b h;(try simp at this);omega
   ·have aj:¬ ((x'.Expr.length:Int) > 0):=by omega
    have ak:¬ (0<(x'.Expr.length:Int)):=by omega
    have a7:Hid (ox xs k=ox xs (k+1)):=fh (MK a0 (by unfold jU;rw[QZ h0]));clear h0 a0 a3 a4 ad hu af;go_wp2_with(fail);go_roundw;exact⟨k+1,S,by go_num,by omega,fh (hG.out.trans gF),fh (by rw[<-a7.out];exact hH.out.fx gF),hS⟩;exact gH
  ·obtain rfl:k=xs.length:=by omega
   have ax:¬ ((xs.length:Int)<(xs.length:Int)):=by omega
   go_wp2_with(fail);refine QU (v:=G A2 xs.length c2) (by simp[Rd,results195,go_sem]) rfl ?_;have h:=hH.out;unfold ox at h;rw[RX,Rq,SC] at h;exact⟨A2,c2,S,by rw[HF.out,Uc],by rw[HF.out,Uc];exact h,hS.out,hG.out⟩
theorem Hi {x:lY} {w:Nat} {lo:Int} (h:iv x.Code=(w,M))(hl : -(2 ^ (8*w-1))=lo)(hh:2 ^ (8*w-1)-1=hi):kB x=(fT x.Code 0 17 && fT x.Arg lo hi):=by
 unfold kB;rw[h,<-hl,<-hh];rfl
theorem C4 {x:lY} {w:Nat} (h:iv x.Code=(w,I))(hh:2 ^ (8*w)-1=hi):kB x=(fT x.Code 0 17 && fT x.Arg 0 hi):=by
 unfold kB;rw[h,<-hh];rfl
theorem I6 {c:Int} {w:Nat} {sg:Bool} (h:iv c=(w,sg))(hb:fT c 0 17=M):zL c=(w:Int)+1:=by
 unfold zL;rw[Q5 hb,h]
theorem rN {g:Prop} (f:g:=by
  have HA:=fh hz
  have HW:=fh h
  have HB:=fh hb
  have HZ:=fh (I6 h hb)
  clear hb h hz
  go_enter func194,ntmps194
  go_wp2_with(first | (go_at_call 180;(with_reducible refine(zdY _ _).mono ?_);rw[HW.out];rintro e w1 ⟨rfl,rfl⟩) | (go_at_call 43;(with_reducible refine(gY _ _ _ _).mono ?_);rw[HB.out];rintro e w2 ⟨rfl,rfl⟩) | (go_at_call 43;(with_reducible refine(gY _ _ _ _).mono ?_);rw[HA.out];rintro e w3 ⟨rfl,rfl⟩))
  go_ret
  exact⟨zo HO.out.symm,gG⟩):g:=f
theorem zuv (x:lY)(w:U):Rh prog 194 #[.agg #[J C x.Code,J C x.Arg]] w fun e w'=>e=.returned (H (kB x))/\ft w w':=by
 cases hb:fT x.Code 0 17
 ·have HO:=fh (show kB x=I from by unfold kB;rw[hb];rfl)
  have HB:=fh hb;have HZ:=fh (show zL x.Code=0 from by unfold zL;rw[hb];rfl);clear hb;go_enter func194,ntmps194;go_wp2_with(first | (go_at_call 180;(with_reducible refine(zdY _ _).mono ?_);rintro e w1 ⟨rfl,rfl⟩) | (go_at_call 43;(with_reducible refine(gY _ _ _ _).mono ?_);rw[HB.out];rintro e w2 ⟨rfl,rfl⟩));go_ret;exact⟨zo HO.out.symm,gG⟩
 ·rcases zw x.Code with h | h | h | h | h
  ·obtain⟨z,hz⟩:∃ z,fT x.Arg (-2147483648) 2147483647=z:=⟨_,rfl⟩
   have HO:Hid (kB x=z):=fh (by rw[Hi h (lo:=-2147483648) (hi:=2147483647) (by rfl) (by rfl),hb,hz];rfl);exact rN
  ·obtain⟨z,hz⟩:∃ z,fT x.Arg (-32768) 32767=z:=⟨_,rfl⟩
   have HO:Hid (kB x=z):=fh (by rw[Hi h (lo:=-32768) (hi:=32767) (by rfl) (by rfl),hb,hz];rfl);exact rN
  ·obtain⟨z,hz⟩:∃ z,fT x.Arg 0 65535=z:=⟨_,rfl⟩
   have HO:Hid (kB x=z):=fh (by rw[C4 h (hi:=65535) (by rfl),hb,hz];rfl);exact rN
  ·obtain⟨z,hz⟩:∃ z,fT x.Arg 0 255=z:=⟨_,rfl⟩
   have HO:Hid (kB x=z):=fh (by rw[C4 h (hi:=255) (by rfl),hb,hz];rfl);exact rN
  ·obtain⟨z,hz⟩:∃ z,fT x.Arg 0 0=z:=⟨_,rfl⟩
   have HO:Hid (kB x=z):=fh (by rw[C4 h (hi:=0) (by rfl),hb,hz];rfl);exact rN
theorem LD {x:lY} (h:kB x=M):0<=x.Code/\x.Code<=17:=by
 unfold kB at h;rw[Q4] at h;exact zu.1 h.1
theorem LC {a:Int} (h:k<n):pM a (n-k) k=pB (a / 2 ^ (8*k))::pM a (n-(k+1)) (k+1):=by
 rw[show n-k=n-(k+1)+1 from by omega];rfl
theorem GQ (n:Int):mX.R w B [J .u8 (n % 256)] (pB n):=by
 have h:=CJ (w:=w) (B:=B) (n % 256).toNat (by omega);rw[Int.toNat_of_nonneg (by omega)] at h;exact h
theorem Mi {n:Int} (h0:0<=n)(h1:n<20):mX.R w B [J .u8 n] (pB n):=by
 have h:=GQ (w:=w) (B:=B) n;rw[show n % 256=n from by omega] at h;exact h
theorem zvs (x:lY)(w:U):Rh prog 162 #[.agg #[J C x.Code,J C x.Arg]] w fun e w'=>e=.returned (V (jR x))/\ft w w':=by
 cases hb:kB x
 ·have HS:=fh (show jR x=⟨#[]⟩ from by unfold jR;rw[hb];rfl)
  have HB:=fh hb;clear hb;go_enter func162,ntmps162;go_wp2_with(go_at_call 194;(with_reducible refine(zuv x _).mono ?_);rw[HB.out];rintro e w1 ⟨rfl,a4,d1,rfl⟩);go_ret;exact⟨mH HS.out.symm,gG⟩
 ·obtain⟨n,sg,hW⟩:∃ n sg,iv x.Code=(n,sg):=⟨_,_,rfl⟩
  have hn:n<=4:=by have:=rr x.Code;rw[hW] at this;exact this
  have hc:=LD hb;have HS:=fh (show jR x=⟨(pB x.Code::pM x.Arg n 0).toArray⟩ from by unfold jR;rw[hb,hW];rfl);have HB:=fh hb;have HW:=fh hW;clear hb hW;go_enter func162,ntmps162;go_wp2_with(first | (go_at_call 194;(with_reducible refine(zuv x _).mono ?_);rw[HB.out];rintro e w1 ⟨rfl,a4,d1,rfl⟩) | (go_at_call 180;(with_reducible refine(zdY _ _).mono ?_);rw[HW.out];rintro e w2 ⟨rfl,rfl⟩));go_loopw [5,6] (fun a b wr=>∃(k:Nat) (a0:Q UInt8) (A:X Ri) (c:Nat),a=G A a0.length c/\b=J C k/\k<=n/\a0.length=k+1/\Hid (a0++pM x.Arg (n-k) k=pB x.Code::pM x.Arg n 0)/\Hid (ft (w.alloc (F #[J C x.Code,J C x.Arg] 142)) wr)/\Hid (fU (mX.sl 5) (w.alloc (F #[J C x.Code,J C x.Arg] 142)) wr [G A a0.length c] a0)) (fun _ b _=>n-(Ry b).toNat)
  case atStart=>exact⟨0,[pB x.Code],_,1,rfl,rfl,QX _,rfl,fh (by simp),fh gF,fh (FU ze (W1:=w) (B:=0) (ec:=[J .u8 (x.Code)]) (Mi hc.1 (by omega)) gF (by simp))⟩
  case round=>
   obtain⟨k,a0,A,c,rfl,rfl,hk,a2,HT,hG,hF⟩:=hrel;obtain⟨os,d,rfl⟩:=hG.out;clear hG;by_cases hlt:k<n
   ·have a3:(k:Int)<(n:Int):=by omega
    have a5:QP C (8*(k:Int))=8*(k:Int):=iw;have HN:=fh (LC (a:=x.Arg) hlt);go_wp2_with(at_builtin;(refine xy (L:=a0.length+1) rfl (.tmp 25) (.tmp 32) Dm ze (W0:=w.alloc (F #[J C x.Code,J C x.Arg] 142)) (hF.out.fx gG).nH gG (W1:=w) (B:=0) (ec:=[J .u8 (x.Arg / 2 ^ (8*k) % 256)]) (y:=pB (x.Arg / 2 ^ (8*k))) (GQ _) rfl rfl rfl (by intro j u hu;simpa[go_sem] using hu) rfl (by omega) (by omega) ?_);intro A2 c2 a6 d2 a1);go_roundw;exact⟨k+1,a0++[pB (x.Arg / 2 ^ (8*k))],A2,c2,by simp;omega,by go_num,by omega,by simp;omega,fh (by rw[<-HT.out,HN.out];simp),fh gG,fh (by simpa using a1)⟩;exact gH
   ·obtain rfl:k=n:=by omega
    have a3:¬ ((k:Int)<(k:Int)):=by omega
    have HE:Hid (a0=pB x.Code::pM x.Arg k 0):=fh (by have h:=HT.out;rw[RP] at h;simpa[pM] using h);have kc:=E5 hF.out.read;rw[a2] at kc;go_wp2_with(fail);go_ret;exact⟨mH (by rw[HS.out,HE.out]),gG⟩
theorem sN (h:(tC.sl e).R w B [G A n c] xs){k:Nat}(hk:k<xs.length) :
  ∃ g off x A0 c0,A=Z ⟨g,off,D⟩/\g<B/\xs[k]?=Z x/\QL w ⟨g,off+k*8,D⟩=Z (J C x.Offset)/\QL w ⟨g,off+k*8+1,D⟩=Z (J C x.Item.Op.Code)/\QL w ⟨g,off+k*8+2,D⟩=Z (J C x.Item.Op.Arg)/\QL w ⟨g,off+k*8+3,D⟩=Z (J C x.Item.fH)/\QL w ⟨g,off+k*8+4,D⟩=Z (H x.Item.Start)/\QL w ⟨g,off+k*8+5,D⟩=Z (G A0 x.Item.fB.length c0)/\QL w ⟨g,off+k*8+6,D⟩=Z (J C x.Item.fE)/\QL w ⟨g,off+k*8+7,D⟩=Z (H x.Item.fF)/\fD x.Offset/\fD x.Item.Op.Code/\fD x.Item.Op.Arg/\fD x.Item.fH/\(zr.sl 3).R w B [G A0 x.Item.fB.length c0] x.Item.fB/\fD x.Item.fE:=by
 obtain⟨g,off,x,ec,h1,hB,h2,h3,h4⟩:=nP h hk;obtain⟨A0,c0,rfl,hf⟩:=Ou h3;exact⟨g,off,x,A0,c0,h1,hB,h2,h4 0 _ rfl,h4 1 _ rfl,h4 2 _ rfl,h4 3 _ rfl,h4 4 _ rfl,h4 5 _ rfl,h4 6 _ rfl,h4 7 _ rfl,hf⟩
def Pq (xs:Q ir)(w:U)(r:Ending)(w':U):Prop:=∃ A c S,r=.returned (G A xs.length c)/\Has (ly.sl 216) w' [G A xs.length c] xs S/\(∀ b∈S,w.heap.size<=b)/\ft w w'
def qe (xs:Q fL)(k:Nat):X fP:=match k with
 | 0=>D
 | j+1=>xs[j]?.map fL.Item
def yu (x:fL):ir:=⟨x.Offset,x.Item.fH,x.Item.Start⟩
theorem xC (hx:xs[k]?=Z x)(h:∀ y,qe xs k=Z y->¬ (x.Item.Start=I/\y.Start=I/\y.fH=x.Item.fH)):qY (qe xs k) (xs.drop k)=yu x::qY (qe xs (k+1)) (xs.drop (k+1)):=by
 obtain⟨h1,rfl⟩:=QM.1 hx;rw[Q6 h1];have hp:qe xs (k+1)=Z xs[k].Item:=by simp[qe,h1]
 rw[hp];cases hq:qe xs k with
 | none=>rfl
 | some y=>
  show (if _ then [] else [_])++_=_;rw[QZ (h y hq)];rfl
theorem J7 {y:fP} (hx:xs[k]?=Z x)(hq:qe xs k=Z y)(h:x.Item.Start=I/\y.Start=I/\y.fH=x.Item.fH):qY (qe xs k) (xs.drop k)=qY (qe xs (k+1)) (xs.drop (k+1)):=by
 obtain⟨h1,rfl⟩:=QM.1 hx;rw[Q6 h1];have hp:qe xs (k+1)=Z xs[k].Item:=by simp[qe,h1]
 rw[hp,hq];show (if _ then [] else [_])++_=_;rw[Q5 h];rfl
theorem Qf {g:Nat} {o0 o1 o2 o3 o4 o5 o6 o7:Value} (h:W.heap[g]?=Z (F #[o0,o1,o2,o3,o4,o5,o6,o7] e (0,0))) :
  QL W ⟨g,0,D⟩=Z o0/\QL W ⟨g,1,D⟩=Z o1/\QL W ⟨g,2,D⟩=Z o2/\QL W ⟨g,3,D⟩=Z o3/\QL W ⟨g,4,D⟩=Z o4/\QL W ⟨g,5,D⟩=Z o5/\QL W ⟨g,6,D⟩=Z o6/\QL W ⟨g,7,D⟩=Z o7/\(∀ j,Rb W ⟨g,j,D⟩=I)/\g<W.heap.size:=by
 refine⟨?_,?_,?_,?_,?_,?_,?_,?_,fun j=>by simp[Rb,h],(blt h)⟩
 all_goals
  rw[RV W g _ _ _ (0,0) h]
  rfl
theorem zV {p:Ri} (h:w.cell? p=Z v)(n:Nat):(w.drewN n).cell? p=Z v:=za ((ft.refl _).drewN n) h
theorem NZ (x:fL){b:Bool}(h:x.Item.Start=b)(h0:fD x.Offset)(h1:fD x.Item.fH):ly.R w B [J C x.Offset,J C x.Item.fH,H b] (yu x):=by
 subst h;exact G5 (x:=yu x) h0 h1
theorem zuJ (hx:(tC.sl 229).R w w.heap.size [G A xs.length c] xs)(hl:xs.length<=1000000) :
  Rh prog 127 #[G A xs.length c] w (Pq (rY xs) w):=by
 go_enter func127,ntmps127;go_wp2_with(fail);go_loopw [3,4] (fun z j wr=>∃(k:Nat) (A5:X Ri) (c5:Nat) (S:Q Nat) (a0:Q ir),z=G A5 a0.length c5/\j=J C k/\k<=xs.length/\Hid (ft w wr)/\Hid (Has (ly.sl 216) wr [G A5 a0.length c5] a0 S)/\Hid (∀ b∈S,w.heap.size<=b)/\Hid (a0++qY (qe xs k) (xs.drop k)=rY xs)/\a0.length<=k) (fun _ j _=>xs.length-(Ry j).toNat)
 case atStart=>exact⟨0,_,0,[w.heap.size],[],rfl,rfl,QX _,fh gF,fh (Has.emp ly (zj (QO _ _) gF)),fh (fun b hb=>by simp only[QN] at hb;omega),fh rfl,by simp⟩
 case round=>
  obtain⟨k,A5,c5,S,a0,rfl,rfl,hk,hG,hH,hS,hA,aA⟩:=hrel;by_cases hlt:k<xs.length
  ·obtain⟨g,ak,x,a9,ab,rfl,aB,a3,x0,x1,x2,x3,x4,x5,x6,x7,b0,b1,b2,b3,h5,b6⟩:=sN hx hlt
   have av:(k:Int)<(xs.length:Int):=by omega
   have aC:QP C ((k:Int)+1)=(k:Int)+1:=iw;have x0:=za hG.out x0;have x1:=za hG.out x1;have x2:=za hG.out x2;have x3:=za hG.out x3;have x4:=za hG.out x4;have x5:=za hG.out x5;have x6:=za hG.out x6;have x7:=za hG.out x7;obtain⟨bs,ad⟩:∃ b,x.Item.Start=b:=⟨_,rfl⟩
   rw[ad] at x4;have a7:=fh ad;clear ad;go_upto_region 6 with(fail);have eb:(wr.alloc (F #[J C x.Item.Op.Code,J C x.Item.Op.Arg,J C x.Item.fH,H bs,G a9 x.Item.fB.length ab,J C x.Item.fE,H x.Item.fF] 227)).heap[wr.heap.size]?=Z (F #[J C x.Item.Op.Code,J C x.Item.Op.Arg,J C x.Item.fH,H bs,G a9 x.Item.fB.length ab,J C x.Item.fE,H x.Item.fF] 227 (0,0)):=QO _ _;have a1:ft wr (wr.alloc (F #[J C x.Item.Op.Code,J C x.Item.Op.Arg,J C x.Item.fH,H bs,G a9 x.Item.fB.length ab,J C x.Item.fE,H x.Item.fF] 227)):=(ft.refl _).alloc _;obtain⟨g5,ae⟩:∃ g,wr.heap.size=g:=⟨_,rfl⟩
   have ax:w.heap.size<=wr.heap.size:=hG.out.size;rw[ae] at eb ax |-;have al:=fh ae;clear ae;generalize (wr.alloc _)=Y at eb a1 |-;obtain⟨o0,o1,o2,o3,o4,o5,o6,of,ol⟩:=zS eb;have x0:=za a1 x0;have hb:bs=M∨bs=I:=by cases bs <;> simp
   have a2:0<k∨k=0:=by omega
   refine UY hb (fun hb=>UY a2 (fun a2=>?tp) (fun a2=>?tz)) (fun hb=>UY a2 (fun a2=>?fp) (fun a2=>?fz))
   case' tp=>
    have a4:(0:Int)<(k:Int):=by omega
    have a5:=fh (xC a3 (fun y hy hh=>by rw[a7.out,hb] at hh;exact Bool.noConfusion hh.1))
   case' tz=>
    have a4:¬ ((0:Int)<(k:Int)):=by omega
    have ag:¬ (0<k):=by omega
    have a5:=fh (xC a3 (fun y hy hh=>by rw[a7.out,hb] at hh;exact Bool.noConfusion hh.1));clear a2
   case' fz=>
    have a4:¬ ((0:Int)<(k:Int)):=by omega
    have ag:¬ (0<k):=by omega
    have a5:=fh (xC a3 (fun y hy hh=>by rw[a2] at hy;cases hy));clear a2
   case' fp=>
    have a4:(0:Int)<(k:Int):=by omega
    obtain⟨j,hj⟩:∃ j,k=j+1:=⟨k-1,by omega⟩
    have ar:j<xs.length:=by omega
    obtain⟨g',ai,q,ay,az,ac,aq,aj,q0,q1,q2,q3,q4,_⟩:=sN hx ar;injection ac with ac
    injection ac with hAA1 hAA2
    obtain rfl:g=g':=hAA1;obtain rfl:ak=ai:=hAA2;have q3:=za (hG.out.trans a1) q3;have q4:=za (hG.out.trans a1) q4;have aw:QP C ((k:Int)-1)=(j:Int):=by rw[hj];show QP C (((j+1:Nat):Int)-1)=_;rw[show ((j+1:Nat):Int)-1=(j:Int) from by omega];exact iw
    have au:(j:Int)<(xs.length:Int):=by omega
    have aa:Hid (qe xs k=Z q.Item):=fh (by rw[hj];show (xs[j]?.map fL.Item)=_;rw[aj];rfl);clear hj aj;refine UY (show q.Item.Start=M∨q.Item.Start=I by cases q.Item.Start <;> simp) (fun hqs=>UY (show (q.Item.fH == x.Item.fH)=M∨(q.Item.fH == x.Item.fH)=I by cases (q.Item.fH == x.Item.fH) <;> simp) (fun ah=>?qa) (fun ah=>?qb)) (fun hqs=>UY (Classical.em (q.Item.fH=x.Item.fH)) (fun hql=>?qc) (fun hql=>?qd))
   case' qa | qb=>
    rw[hqs] at q4;have a5:=fh (xC a3 (fun y hy hh=>by rw[aa.out] at hy;injection hy with hy;rw[<-hy,hqs] at hh;exact Bool.noConfusion hh.2.1))
   case' qd=>
    rw[hqs] at q4;have ah:(q.Item.fH == x.Item.fH)=I:=QV.2 hql;have a5:=fh (xC a3 (fun y hy hh=>by rw[aa.out] at hy;injection hy with hy;rw[<-hy] at hh;exact hql hh.2.2));clear hql hqs
   case qc=>
    rw[hqs] at q4;have ah:(q.Item.fH == x.Item.fH)=M:=Rt.2 hql;have am:=fh (J7 a3 aa.out ⟨a7.out.trans hb,hqs,hql⟩);clear a3 hqs hql;go_quiet (fail);go_wp2_with(fail);go_roundw;exact⟨k+1,A5,c5,S,a0,rfl,by go_num,by omega,fh ((hG.out.trans a1).trans gF),fh ((hH.out.fx a1).fx gF),hS,fh (by rw[<-hA.out,am.out]),by omega⟩;exact gH
   all_goals
    clear a3
    go_quiet (fail)
    have a6:g5∉S:=fun hm=>by have h:=hH.out.lt g5 hm;have h2:=al.out;omega
    have ap:g∉S:=fun hm=>by have h:=hS.out g hm;omega
    have af:g<Y.heap.size:=by omega
    go_upto_region 7 with(fail)
    go_region_held3 (fun w'=>QL w' ⟨g5,2,D⟩=Z (J C x.Item.fH)/\QL w' ⟨g5,3,D⟩=Z (H bs)/\QL w' ⟨g,ak+k*8,D⟩=Z (J C x.Offset)) ((repeat' apply QQ) <;> ((repeat (first | with_reducible assumption | with_reducible refine zd ?_ _ _ | with_reducible refine zk ?_ _ | with_reducible refine zc ?_ | with_reducible refine zV ?_ _));done)) (first | (refine zW (L:=a0.length+1) rfl (.tmp 47) (.tmp 58) IS Ij ((hH.out.fx a1).fx gF) (W1:=w) (B:=0) (ec:=[J C x.Offset,J C x.Item.fH,H _]) (y:=yu x) (NZ x (a7.out.trans hb) b0 b3) rfl rfl rfl (by intro j u hu;simpa[go_sem] using hu) rfl (by omega) (by omega) ?_;intro A8 c8 W8 S8 a8 an ao;have o2:=(a8.cell (g:=g5) (QS ol (ft.size gF)) a6 _).trans (za gF o2);have o3:=(a8.cell (g:=g5) (QS ol (ft.size gF)) a6 _).trans (za gF o3);have x0:=(a8.cell (g:=g) (QS af (ft.size gF)) ap _).trans (za gF x0)))
    all_goals go_wp2_with(fail)
    go_roundw
    exact⟨k+1,A8,c8,S8,a0++[yu x],by rw[QR];rfl,by go_num,by omega,fh (a8.fx ((hG.out.trans a1).trans gF) hS.out),fh (by rw[QR];exact an),fh (fun b hb=>(ao b hb).elim (hS.out b) (fun h=>Rj (((hG.out.trans a1).trans gF)).size h)),fh (by rw[<-hA.out,a5.out,Rw];rfl),by rw[QR,RD];omega⟩
    exact gH
  ·obtain rfl:k=xs.length:=by omega
   have av:¬ ((xs.length:Int)<(xs.length:Int)):=by omega
   have HE:Hid (a0=rY xs):=fh (by have h:=hA.out;rw[Rq] at h;simpa[qY] using h);go_wp2_with(fail);exact QU (v:=G A5 a0.length c5) (by simp[Rd,results127,go_sem]) rfl (by rw[<-HE.out];exact⟨A5,c5,S,rfl,hH.out,hS.out,hG.out⟩)
def NB (xs:Q gJ)(w:U)(r:Ending)(w':U):Prop:=∃ A c S,r=.returned (G A xs.length c)/\Has (kH.sl 205) w' [G A xs.length c] xs S/\(∀ b∈S,w.heap.size<=b)/\ft w w'
def tx (x:fL):gJ:=⟨x.Offset,x.Offset+zL x.Item.Op.Code,x.Item.fF,x.Item.fE⟩
theorem Oi {xs:Q gJ} (h:Has (kH.sl e) W [G A n c] xs S)(hq:xs[m]?=Z q):∃ g,A=Z ⟨g,0,D⟩/\g∈S/\g<W.heap.size/\(∀ j,Rb W ⟨g,j,D⟩=I)/\
  QL W ⟨g,m*4,D⟩=Z (J C q.Start)/\QL W ⟨g,m*4+1,D⟩=Z (J C q.End)/\QL W ⟨g,m*4+2,D⟩=Z (H q.Frame)/\QL W ⟨g,m*4+3,D⟩=Z (J C q.fE)/\
  ∀ v,fD v->Has (kH.sl e) (W.setCell ⟨g,m*4+1,D⟩ (J C v)) [G A n c] (xs.set m { q with End:=v }) S/\fw S W (W.setCell ⟨g,m*4+1,D⟩ (J C v)):=by
 obtain⟨g,ec,Sc,rfl,a1,a2,_,_,_,hO,hf,hc,a0,_⟩:=qt h.1 h.2 hq;obtain⟨rfl,rfl,b0,b1,b2⟩:=OY hO;refine⟨g,rfl,a1,a2,hf,hc 0 _ rfl,hc 1 _ rfl,hc 2 _ rfl,hc 3 _ rfl,fun v hv=>?_⟩;have hp:=a0 1 (J C v) { q with End:=v } (by decide) rfl (N0 (x:={ q with End:=v }) b0 hv b2);exact⟨⟨hp.1,h.2⟩,hp.2⟩
theorem uI {g:Prop} (f:g:=by
  by_cases hjm:j<m
  ·rw[RY (by simp;omega),List.getElem?_dropLast,Q5 (by omega)]
  ·rw[Tb (by simp;omega),Tb (by omega)]):g:=f
theorem JF (hq:acc[m]?=Z q)(hn:acc.length=m+1)(h:q.End=x.Offset/\q.Frame=x.Item.fF/\q.fE=x.Item.fE):pT acc x=acc.set m { q with End:=x.Offset+zL x.Item.Op.Code }:=by
 have hl:acc.getLast?=Z q:=by rw[TZ,hn];exact hq
 unfold pT;simp only[hl];rw[Q5 h];apply UG;intro j;rw[UF];by_cases hj:m=j
 ·subst hj
  rw[Q5 rfl,Q5 (by omega),RF (by simp;omega)];simp[hn]
 ·rw[QZ hj]
  exact uI
theorem JG (hq:acc[m]?=Z q)(hn:acc.length=m+1)(h:¬ (q.End=x.Offset/\q.Frame=x.Item.fF/\q.fE=x.Item.fE)):pT acc x=acc++[tx x]:=by
 have hl:acc.getLast?=Z q:=by rw[TZ,hn];exact hq
 unfold pT;simp only[hl];rw[QZ h];rfl
theorem GJ {α β:Type} {f:β->α->β} {xs:Q α} {x:α} {b:β} (h:xs[k]?=Z x):(xs.drop k).foldl f b=(xs.drop (k+1)).foldl f (f b x):=by
 obtain⟨h1,rfl⟩:=QM.1 h;rw[Q6 h1];rfl
theorem OL (h:xs[k]?=Z x):pY (xs.drop k)=(fT x.Offset 0 1000000 && pY (xs.drop (k+1))):=by
 obtain⟨h1,rfl⟩:=QM.1 h;rw[Q6 h1];rfl
theorem F7 (h:pY xs=M)(hx:xs[k]?=Z x):0<=x.Offset/\x.Offset<=1000000:=by
 unfold pY at h;rw[SG] at h;exact zu.1 (h x (Q9 hx))
theorem zt (c:Int):0<=zL c/\zL c<=5:=by
 unfold zL;split
 ·have:=rr c
  omega
 ·omega
theorem znO (hx:(tC.sl 229).R w w.heap.size [G A xs.length c] xs)(hl:xs.length<=1000000) :
  Rh prog 168 #[G A xs.length c] w fun e w'=>e=.returned (H (pY xs))/\ft w w':=by
 go_enter func168,ntmps168;go_wp2_with(fail);go_loopw [3] (fun j wr=>∃ k:Nat,j=J C k/\k<=xs.length/\Hid (ft w wr)/\Hid (pY (xs.drop k)=pY xs)) (fun j _=>xs.length-(Ry j).toNat)
 case atStart=>exact⟨0,rfl,QX _,fh gF,fh rfl⟩
 case round=>
  obtain⟨k,rfl,hk,hG,hN⟩:=hrel;by_cases hlt:k<xs.length
  ·obtain⟨g,a6,x,a2,a3,rfl,a4,a0,x0,_⟩:=sN hx hlt
   have a1:(k:Int)<(xs.length:Int):=by omega
   have a5:QP C ((k:Int)+1)=(k:Int)+1:=iw;have x0:=za hG.out x0;obtain⟨b,hb⟩:∃ b,fT x.Offset 0 1000000=b:=⟨_,rfl⟩
   have HA:=fh (OL a0);have HB:=fh hb;clear a0 hb;cases b with
   | true=>
    go_wp2_with(first | (go_at_call 43;(with_reducible refine(gY _ _ _ _).mono ?_);rw[HB.out];rintro e w2 ⟨rfl,rfl⟩));go_roundw;exact⟨k+1,by go_num,by omega,hG,fh (by rw[<-hN.out,HA.out,HB.out];rfl)⟩;exact gH
   | false=>
    go_wp2_with(first | (go_at_call 43;(with_reducible refine(gY _ _ _ _).mono ?_);rw[HB.out];rintro e w2 ⟨rfl,rfl⟩));go_ret;exact⟨zo (by rw[<-hN.out,HA.out,HB.out];rfl),hG.out⟩
  ·obtain rfl:k=xs.length:=by omega
   have a1:¬ ((xs.length:Int)<(xs.length:Int)):=by omega
   have HE:Hid (pY xs=M):=fh (by rw[<-hN.out,Rq];rfl);go_wp2_with(fail);go_ret;exact⟨zo HE.out.symm,hG.out⟩
theorem rF {g:Prop} (f:g:=by
  go_upto_region 10 with(fail)
  go_quiet (fail)
  go_wp2_with(first | (refine zA (L:=m+1+1) rfl (.tmp 84) (.tmp 86) CL BH (hH2.out.fx gF) (W1:=w) (B:=0) (ec:=[J C x.Offset,J C (x.Offset+zL x.Item.Op.Code),H x.Item.fF,J C x.Item.fE]) (y:=tx x) (Bu (x:=tx x) b0 hoI b6) rfl rfl rfl (by intro j u hu;simpa[go_sem] using hu) rfl (by omega) (by omega) ?_;intro A8 c8 W8 S8 hon hH8 hS8))
  go_roundw
  exact⟨k+1,m+1+1,A8,c8,S8,acc++[tx x],rfl,by go_num,by omega,by omega,fh (by rw[QR,hn.out];rfl),fh (hon.fx ((hG.out.trans hgwx).trans gF) hS.out),fh hH8,fh (fun b hb=>(hS8 b hb).elim (hS.out b) (fun h=>Rj (((hG.out.trans hgwx).trans gF)).size h)),fh (by rw[<-hA.out,HF.out,HP.out])⟩
  exact gH):g:=f
theorem zs8 (hx:(tC.sl 229).R w w.heap.size [G A xs.length c] xs)(hl:xs.length<=1000000) :
  Rh prog 126 #[G A xs.length c] w (NB (oN xs) w):=by
 obtain⟨nb,ac⟩:∃ b,pY xs=b:=⟨_,rfl⟩
 have a0:=fh ac;clear ac;cases nb with
 | false=>
  have HE:Hid (oN xs = []):=fh (by unfold oN;rw[a0.out];rfl);go_enter func126,ntmps126;go_wp2_with(first | (go_at_call 168;(with_reducible refine(znO (Ty.up _ hx gF) hl).mono ?_);rw[a0.out];rintro e w1 ⟨rfl,a1⟩));exact QU (v:=G (Z ⟨w.heap.size,0,D⟩) 0 0) (by simp[Rd,results126,go_sem]) rfl (by rw[HE.out];exact⟨_,0,[w.heap.size],rfl,Has.emp kH (zj (QO w (F #[] 205)) (ft.trans (b:=_) gF a1)),fun b hb=>by simp only[QN] at hb;omega,ft.trans (b:=_) gF a1⟩)
 | true=>
 have HE:Hid (oN xs=xs.foldl pT []):=fh (by unfold oN;rw[a0.out];rfl);go_enter func126,ntmps126;go_wp2_with(first | (go_at_call 168;(with_reducible refine(znO (Ty.up _ hx gF) hl).mono ?_);rw[a0.out];rintro e w1 ⟨rfl,a1⟩));go_loopw [3,4] (fun z j wr=>∃(k n:Nat) (A5:X Ri) (c5:Nat) (S:Q Nat) (acc:Q gJ),z=G A5 n c5/\j=J C k/\k<=xs.length/\n<=k/\Hid (acc.length=n)/\Hid (ft w wr)/\Hid (Has (kH.sl 205) wr [G A5 n c5] acc S)/\Hid (∀ b∈S,w.heap.size<=b)/\Hid ((xs.drop k).foldl pT acc=oN xs)) (fun _ j _=>xs.length-(Ry j).toNat)
 case atStart=>exact⟨0,0,_,0,[w.heap.size],[],rfl,rfl,QX _,QX _,fh rfl,fh (ft.trans (b:=_) gF a1),fh (Has.emp kH (zj (QO w (F #[] 205)) (ft.trans (b:=_) gF a1))),fh (fun b hb=>by simp only[QN] at hb;omega),fh HE.out.symm⟩
 case round=>
  obtain⟨k,n,A5,c5,S,acc,rfl,rfl,hk,ar,hn,hG,hH,hS,hA⟩:=hrel;by_cases hlt:k<xs.length
  ·obtain⟨g,az,x,a5,a7,rfl,ao,aa,x0,x1,x2,x3,x4,x5,x6,x7,b0,b1,b2,b3,h5,b6⟩:=sN hx hlt
   have ak:(k:Int)<(xs.length:Int):=by omega
   have aw:QP C ((k:Int)+1)=(k:Int)+1:=iw;have au:=F7 a0.out aa;have av:=zt x.Item.Op.Code;have hoI:fD (x.Offset+zL x.Item.Op.Code):=⟨by omega,by omega⟩
   have ay:QP C (x.Offset+zL x.Item.Op.Code)=x.Offset+zL x.Item.Op.Code:=iw;have HF:=fh (GJ (f:=pT) (b:=acc) aa);have x0:=za hG.out x0;have x1:=za hG.out x1;have x2:=za hG.out x2;have x3:=za hG.out x3;have x4:=za hG.out x4;have x5:=za hG.out x5;have x6:=za hG.out x6;have x7:=za hG.out x7;clear aa;go_upto_region 8 with(fail);have eb:(wr.alloc (F #[J C x.Offset,J C x.Item.Op.Code,J C x.Item.Op.Arg,J C x.Item.fH,H x.Item.Start,G a5 x.Item.fB.length a7,J C x.Item.fE,H x.Item.fF] 229)).heap[wr.heap.size]?=Z (F #[J C x.Offset,J C x.Item.Op.Code,J C x.Item.Op.Arg,J C x.Item.fH,H x.Item.Start,G a5 x.Item.fB.length a7,J C x.Item.fE,H x.Item.fF] 229 (0,0)):=QO _ _;have ab:ft wr (wr.alloc (F #[J C x.Offset,J C x.Item.Op.Code,J C x.Item.Op.Arg,J C x.Item.fH,H x.Item.Start,G a5 x.Item.fB.length a7,J C x.Item.fE,H x.Item.fF] 229)):=(ft.refl _).alloc _;obtain⟨g5,a8⟩:∃ g,wr.heap.size=g:=⟨_,rfl⟩
   rw[a8] at eb |-;have ad:=fh a8;clear a8;generalize (wr.alloc _)=Y at eb ab |-;obtain⟨o0,o1,o2,o3,o4,o5,o6,o7,of,ol⟩:=Qf eb;go_cut [6] from 23 to 39 (fun v wx=>∃ g6,v=.pointer (Z ⟨g6,0,D⟩)/\ft Y wx/\wx.heap[g6]?=Z (F #[J C x.Offset,J C (x.Offset+zL x.Item.Op.Code),H x.Item.fF,J C x.Item.fE] 205 (0,0))/\Y.heap.size<=g6)
   case first=>
    go_region_held3 (fun w'=>QL w' ⟨g5,0,D⟩=Z (J C x.Offset)/\QL w' ⟨g5,1,D⟩=Z (J C x.Item.Op.Code)/\QL w' ⟨g5,6,D⟩=Z (J C x.Item.fE)/\QL w' ⟨g5,7,D⟩=Z (H x.Item.fF)) ((repeat' apply QQ) <;> ((repeat (first | with_reducible assumption | with_reducible refine zd ?_ _ _ | with_reducible refine zk ?_ _ | with_reducible refine zc ?_ | with_reducible refine zV ?_ _));done)) (first | (go_at_call 167;(with_reducible refine(zfT _ _).mono ?_);rintro e w' ⟨rfl,rfl⟩))
    all_goals go_wp2_with(fail)
    all_goals go_meet
    all_goals exact⟨_,rfl,gF,zj (QO Y _) gF,Q8 _⟩
   case rest=>
    obtain⟨g6,rfl,af,ae,al⟩:=hcut;have hgwx:ft wr wc:=ab.trans af;obtain⟨r0,r1,r2,r3,rf,rl⟩:=iJ ae;have hH2:=fh (hH.out.fx hgwx);clear x0 x1 x2 x3 x4 x5 x6 x7 o0 o1 o2 o3 o4 o5 o6 o7 of eb;cases n with
    | zero=>
     have hz:¬ ((0:Int) > 0):=by omega
     have HP:Hid (pT acc x=acc++[tx x]):=fh (by rw[Tj.1 hn.out];rfl);go_upto_region 10 with(fail);go_quiet (fail);go_wp2_with(first | (refine zA (L:=0+1) rfl (.tmp 84) (.tmp 86) CL BH (hH2.out.fx gF) (W1:=w) (B:=0) (ec:=[J C x.Offset,J C (x.Offset+zL x.Item.Op.Code),H x.Item.fF,J C x.Item.fE]) (y:=tx x) (Bu (x:=tx x) b0 hoI b6) rfl rfl rfl (by intro j u hu;simpa[go_sem] using hu) rfl (by omega) (by omega) ?_;intro A8 c8 W8 S8 hon hH8 hS8));go_roundw;exact⟨k+1,0+1,A8,c8,S8,acc++[tx x],rfl,by go_num,by omega,by omega,fh (by rw[QR,hn.out];rfl),fh (hon.fx ((hG.out.trans hgwx).trans gF) hS.out),fh hH8,fh (fun b hb=>(hS8 b hb).elim (hS.out b) (fun h=>Rj (((hG.out.trans hgwx).trans gF)).size h)),fh (by rw[<-hA.out,HF.out,HP.out])⟩;exact gH
    | succ m=>
     obtain⟨q,hq⟩:∃ q,acc[m]?=Z q:=⟨_,QW (by have:=hn.out;omega)⟩
     obtain⟨gr,ag,a9,aj,ai,q0,q1,q2,q3,a2⟩:=Oi hH2.out hq;subst ag;have a6:=fh a2;have aq:(0:Int)<((m:Int)+1):=by omega
     have am:(((m+1:Nat):Int)) > 0:=by omega
     have ax:QP C ((m:Int)+1-1)=(m:Int):=by rw[Td];exact iw
     have an:QP C (m:Int)=(m:Int):=iw;have ap:(m:Int)<(m:Int)+1:=by omega
     have ah:gr≠g6:=fun e=>by have h:=hH.out.lt gr a9;have h2:=ad.out;rw[<-e] at al;omega
     clear a2;have a4:=fun h=>JG (x:=x) hq hn.out h;have a3:=fun h=>JF (x:=x) hq hn.out h;have KP:=fh a4;have KJ:=fh a3;clear a4 a3 hq;by_cases e1:q.End=x.Offset
     ·by_cases e2:q.Frame=x.Item.fF
      ·by_cases e3:q.fE=x.Item.fE
       ·have HJ:=fh (KJ.out ⟨e1,e2,e3⟩)
        have f1:(q.End == x.Offset)=M:=Rt.2 e1;have f2:(q.Frame == x.Item.fF)=M:=Rt.2 e2;have f3:(q.fE == x.Item.fE)=M:=Rt.2 e3;clear e1 e2 e3;go_upto_region 10 with(fail);go_quiet (fail);go_wp2_with(fail);have hj:=a6.out (x.Offset+zL x.Item.Op.Code) hoI;go_roundw;exact⟨k+1,m+1,Z ⟨gr,0,D⟩,c5,S,acc.set m { q with End:=x.Offset+zL x.Item.Op.Code },rfl,by go_num,by omega,by omega,fh (by rw[Rn];exact hn.out),fh ((hj.2.fx (hG.out.trans hgwx) hS.out).trans gF),fh (hj.1.fx gF),hS,fh (by rw[<-hA.out,HF.out,HJ.out])⟩;exact gH
       ·have HP:=fh (KP.out (fun h=>e3 h.2.2))
        have f1:(q.End == x.Offset)=M:=Rt.2 e1;have f2:(q.Frame == x.Item.fF)=M:=Rt.2 e2;have f3:(q.fE == x.Item.fE)=I:=QV.2 e3;clear e1 e2 e3;exact rF
      ·have HP:=fh (KP.out (fun h=>e2 h.2.1))
       have f1:(q.End == x.Offset)=M:=Rt.2 e1;have f2:(q.Frame == x.Item.fF)=I:=QV.2 e2;clear e1 e2;exact rF
     ·have HP:=fh (KP.out (fun h=>e1 h.1))
      have f1:(q.End == x.Offset)=I:=QV.2 e1;clear e1;exact rF
  ·obtain rfl:k=xs.length:=by omega
   have ak:¬ ((xs.length:Int)<(xs.length:Int)):=by omega
   have HR:Hid (acc=oN xs):=fh (by have h:=hA.out;rw[Rq] at h;exact h);go_wp2_with(fail);exact QU (v:=G A5 n c5) (by simp[Rd,results126,go_sem]) rfl (by rw[<-HR.out];exact⟨A5,c5,S,by rw[hn.out],by rw[hn.out];exact hH.out,hS.out,hG.out⟩)
end Go.Proofs.YthgbglbaemelhaaGreat
