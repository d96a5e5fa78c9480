/-
  PART.
-/
import Derived.Test.YthgbglbaemelhaaGreatM13LawThreadsApart
set_option linter.unusedVariables false
set_option linter.unusedSimpArgs false
set_option maxRecDepth 100000
set_option maxHeartbeats 8000000
namespace Go.Proofs.YthgbglbaemelhaaGreat
open Value renaming slice->G,int->J,bool->H,string->V
open IntKind renaming i64->Z,wrap->Rg
open Option renaming none->C,some->D,map_some->TK
open Obj renaming cells->F
open Bool renaming false->I,true->M
open Go renaming World->U,results->Rv,Calls->RD,Addr->RJ,TypeId->R5
open World renaming cell?->Rb,frozen?->Rx,setCell->R6
open List renaming length_cons->RA,getElem?_cons_zero->RW,nil_append->RY,length_singleton->R4,getElem?_cons_succ->Tg,range'->Ui
open RowKit renaming intOf->RS
open _root_.Array renaming length_toList->Sk
open _root_.Nat renaming add_zero->Sr
open Tryz
open Go.RowKit
variable {A:X RJ}{B Q4 c d i j k l level m n:Nat}{S:Q Nat}{W w:U}{a b:Q Int}{acc:Q gK}{e:R5}{hi:Int}{p:Q fw}{q:gK}{v:Value}{x y:fK}{xs:Q fK}
theorem Di {α:Type} {T:Ty α} {xs:Q α} (h:Has (T.sl e) w [G A n c] xs S){k:Nat}{x:α}(hx:xs[k]?=D x) :
  ∃ g ec Sc,A=D ⟨g,0,C⟩/\g∈S/\g<w.heap.size/\g∉Sc/\(∀ j∈Sc,j∈S)/\Has T w ec x Sc/\(∀ j,Rx w ⟨g,j,C⟩=I)/\(∀ j u,ec[j]?=D u->Rb w ⟨g,k*T.size+j,C⟩=D u)/\
   (∀ ec' y Sy,Has T w ec' y Sy->(∀ b∈Sy,b∉S∨b∈Sc)->fx [g] w (setRow w g (k*T.size) 0 ec')/\∃ S',Has (T.sl e) (setRow w g (k*T.size) 0 ec') [G A n c] (xs.set k y) S'/\∀ b∈S',b∈S∨b∈Sy):=by
 obtain⟨h,hS⟩:=h;obtain⟨A',c',av,S',h1,h2,h3,rfl⟩:=h;injection h1 with h1 _
 injection h1 with hA hn hc
 subst hA hn hc;have hk:k<xs.length:=(Rd.1 hx).1;obtain⟨a,ec,b,Sa,Sc,Sb,rfl,rfl,hl,ha,hO,hb⟩:=AC.part h3 hx;obtain⟨a7,a8⟩:=h2;rcases a8 with⟨_,hn⟩ | ⟨g,au,a2,hv,a5,hg,ar,ak,al,a1⟩
 ·omega
 ·injection hv with hA _ hc
  subst hA hc;have am:g<w.heap.size:=(blt hg)
  simp only[kj,List.singleton_append,TX,RM,Rr,not_or] at hS;obtain⟨⟨ah,aj,ai⟩,ap,⟨ac,aq,ab⟩,ae⟩:=hS;have af:ec.length=T.size:=T.jC hO
  have aw:(a++(ec++b)).length<=a2.size:=by
   rw[<-a1,SX];have:a2.toList.length=a2.size:=Sk;omega
  have a6:∀(j:Nat) (u:Value),(a++(ec++b))[j]?=D u->a2[j]?=D u:=by
   intro j u hu;rw[<-a1,Tc] at hu;split at hu
   ·simpa using hu
   ·cases hu
  refine⟨g,ec,Sc,rfl,by simp[kj],am,aj,fun j hj=>by simp[hj],⟨hO,ac⟩,fun j=>by simp[Rx,hg],fun j u hu=>?_,fun ec' y Sy hy hSy=>?_⟩
  ·rw[Sw w g _ a2 e (0,0) hg]
   apply a6;exact Xq
  ·obtain⟨hy,ao⟩:=hy
   have ag:g∉Sy:=fun hm=>by
    rcases hSy g hm with h | h
    ·exact h (by simp[kj])
    ·exact aj h
   have a9:∀ b∈Sy,b∉Sa:=fun i hi hm=>by
    rcases hSy i hi with h | h
    ·exact h (by simp[hm])
    ·exact ae i hm i (.inl h) rfl
   have aa:∀ b∈Sy,b∉Sb:=fun i hi hm=>by
    rcases hSy i hi with h | h
    ·exact h (by simp[hm])
    ·exact ab i h i hm rfl
   have a3:ec'.length=T.size:=T.jC hy;have a0:∀ i,i≠g->(setRow w g (k*T.size) 0 ec').heap[i]?=w.heap[i]?:=fun i hi=>K4 _ _ _ _ _ _ hi;have an:(a++(ec++b)).length=a.length+ec.length+b.length:=by simp only[Rh];omega
   refine⟨Lo _ II _ _ _ _ (fx.refl _ _),kj (D ⟨g,0,C⟩)++(Sa++(Sy++Sb)),⟨⟨D ⟨g,0,C⟩,c,a++(ec'++b),_,by rw[RP],⟨?_,.inr ⟨g,c,xF a2 (k*T.size) 0 ec',by rw[RP],a5,NH _ _ _ _ _ _ _ hg,by simpa using ar,ak,by rw[NG];exact al,?_⟩⟩,AC.join hx (AC.fJ ha ?_) (T.gD hy ?_) (AC.fJ hb ?_),rfl⟩,?_⟩,?_⟩
   ·rw[RP,<-a7]
    simp[af,a3]
   ·rw[RP]
    rw[Fm,Qe _ _ _ _ (by rw[a3];have:a2.toList.length=a2.size:=Sk;omega)];have hM:xs.length*T.size=a.length+ec.length+b.length:=by rw[<-a7,an]
    have e1:a2.toList.take (k*T.size+0)=a:=by
     have h:=Ta (List.take (k*T.size)) a1;rw[List.take_take,Ve K9] at h;rw[Sr,h,List.take_append_of_le_length (Ua hl.symm),SR (Ua hl)]
    have e2:(a2.toList.drop (k*T.size+0+ec'.length)).take (xs.length*T.size-(k*T.size+T.size))=b:=by
     have h:=Ta (List.drop (k*T.size+T.size)) a1;have ad:(a++ec).length=k*T.size+T.size:=by rw[Rh,hl,af]
     rw[List.drop_take,<-RU,List.drop_append_of_le_length (Ua ad.symm),List.drop_of_length_le (Ua ad),RY] at h;rw[a3,Sr];exact h
    have a4:(a++ec').length=k*T.size+T.size:=by rw[Rh,hl,a3]
    rw[e1,<-RU,List.take_append,SR (by rw[a4];omega),a4,e2,RU]
   ·exact fun i hi=>a0 i (fun e=>ah (e ▸ hi))
   ·exact fun i hi=>a0 i (fun e=>ag (e ▸ hi))
   ·exact fun i hi=>a0 i (fun e=>ai (e ▸ hi))
   ·simp only[kj,List.singleton_append,TX,RM,Rr,not_or]
    refine⟨⟨ah,ag,ai⟩,ap,⟨ao,aq,fun i hi j hj he=>aa i hi (he ▸ hj)⟩,fun i hi j hj he=>?_⟩;rcases hj with hj | hj
    ·exact a9 j hj (he ▸ hi)
    ·exact ae i hi j (.inr hj) he
   ·intro i hi
    simp only[Rr] at hi |-;rcases hi with hi | hi | hi | hi
    ·exact .inl (.inl hi)
    ·exact .inl (.inr (.inl hi))
    ·exact .inr hi
    ·exact .inl (.inr (.inr (.inr hi)))
def Jk (xs:Q fw)(w:U)(r:Ending)(w':U):Prop:=∃ A c S,r=.returned (G A xs.length c)/\Has (zQ.sl 99) w' [G A xs.length c] xs S/\(∀ b∈S,w.heap.size<=b)/\fu w w'
theorem zsY {xs:Q fw} (hx:(zQ.sl 99).R w w.heap.size [G A xs.length c] xs)(hl:xs.length<=1099511627776)(hs:∀ x∈xs,x.fL.length<=1099511627776/\x.Expr.length<=1099511627776) :
  RD prog 201 #[G A xs.length c] w (Jk xs w):=by
 go_enter func201,ntmps201;go_wp2_with(fail);go_loopw [3,4] (fun z j wr=>∃(k:Nat) (A5:X RJ) (c5:Nat) (S:Q Nat),z=G A5 k c5/\j=J Z k/\k<=xs.length/\Hid (fu w wr)/\Hid (Has (zQ.sl 99) wr [G A5 k c5] (xs.take k) S)/\Hid (∀ b∈S,w.heap.size<=b)) (fun _ j _=>xs.length-(RS j).toNat)
 case atStart=>exact⟨0,_,0,[w.heap.size],rfl,rfl,Rl _,fh gF,fh (Has.Wy zQ (zj (Re _ _) gF)),fh (fun b hb=>by simp only[Rc] at hb;omega)⟩
 case round=>
  obtain⟨k,A5,c5,S,rfl,rfl,hk,hG,hH,hS⟩:=hrel;by_cases hlt:k<xs.length
  ·obtain⟨g,am,x,ab,af,ac,ag,rfl,aj,a1,x0,x1,x2,x3,b0,b1,h2,h3⟩:=lS hx hlt
   have a6:(k:Int)<(xs.length:Int):=K9;have x0:=za hG.out x0;have x1:=za hG.out x1;have x2:=za hG.out x2;have x3:=za hG.out x3;obtain⟨a7,a8⟩:=hs x (Rt a1);have aa:Hid (xs.take k++[x]=xs.take (k+1)):=fh (by rw[R8,a1];rfl);clear a1;have u2:=h2;have u3:=h3;go_wp2_with(first | (go_at_call 208;(with_reducible refine(zqG (x:=x) b0 b1 ((iI.sl 9).fy u2 hG.out (Ru _) |> fun h=>(iI.sl 9).iH h (fun _ _=>rfl) hG.out.size) ((jf.sl 160).fy u3 hG.out (Ru _) |> fun h=>(jf.sl 160).iH h (fun _ _=>rfl) hG.out.size) a7 a8).mono ?_);rintro e v2 ⟨ad,ah,ae,ai,SF,rfl,a4,a2,a0⟩) | (refine zJ (L:=k+1) rfl (.tmp 12) (.tmp 18) ng (S:=S) (hH.out.fy (fu.trans (b:=_) gF (a0.trans gF))) (a4.fy gF) (fun b hb hm=>by have h1:=a2 b hm;have h2:=hH.out.lt b hb;omega) rfl rfl rfl (by intro j u hu;simpa[go_sem] using hu) rfl K9 K9 ?_;intro A8 c8 W8 S8 a9 a3 a5));go_roundw
   case measure=>exact gM
   case rel=>
    have al:=a0.size;have ak:=hG.out.size;refine⟨k+1,A8,c8,S8,rfl,Ar,K9,fh (a9.fy (hG.out.trans (a0.trans gF)) hS.out),fh (by rw[<-aa.out];exact a3),fh (fun b hb=>?_)⟩;rcases a5 b hb with h | h | h
    ·exact hS.out b h
    ·have:=a2 b h;omega
    ·(try simp at h);omega
  ·obtain rfl:k=xs.length:=K9
   have a6:¬ ((xs.length:Int)<(xs.length:Int)):=K9;go_wp2_with(fail);refine Rj (v:=G A5 xs.length c5) (by simp[Rv,results201,go_sem]) rfl ⟨A5,c5,S,rfl,?_,hS.out,hG.out⟩;have h:=hH.out;rw[SC] at h;exact h
theorem BU {a:RJ} (h:W.cell? a=D v):W.setCell a v=W:=by
 unfold Rb at h;unfold R6;split at h
 ·rename_i c e f hc
  split at h
  ·cases h
  ·rename_i hs
   have:W.heap.modify a.block (fun
    | F c elem frozen=>F (if a.spot.isSome then c else c.setIfInBounds a.off v) elem frozen
    | o=>o)=W.heap:=by
    apply Uz
    intro i
    rw[UK]
    split
    ·rename_i hi
     subst hi;rw[hc];simp only[TK,hs,Ro,Bool.false_eq_true,not_false_eq_true];congr 2;apply Uz;intro k;rw[Array.getElem?_setIfInBounds];split
     ·rename_i hk
      subst hk;split
      ·exact h.symm
      ·rename_i hk2
       rw[TM K9]
     ·rfl
    ·rfl
   exact Ta (fun h=>({ W with heap:=h }:U)) this
 ·cases h
theorem Hp {xs:Q fw} (h:Has (zQ.sl e) w [G A n c] xs S){k:Nat}{x:fw}(hx:xs[k]?=D x) :
  ∃ g,A=D ⟨g,0,C⟩/\g∈S/\g<w.heap.size/\(∀ j,Rx w ⟨g,j,C⟩=I)/\(∃ u,Rb w ⟨g,k*4+3,C⟩=D u)/\
   (∀(ys:Q gB) (Ay:X RJ) (cy:Nat) (Sy:Q Nat),Has (jf.sl 160) w [G Ay ys.length cy] ys Sy->(∀ b∈Sy,b∉S)->
    fx [g] w (w.setCell ⟨g,k*4+3,C⟩ (G Ay ys.length cy))/\∃ S',Has (zQ.sl e) (w.setCell ⟨g,k*4+3,C⟩ (G Ay ys.length cy)) [G A n c] (xs.set k { x with Expr:=ys }) S'/\∀ b∈S',b∈S∨b∈Sy):=by
 obtain⟨g,ec,Sc,h1,h2,h3,h4,h5,h6,h7,h8,h9⟩:=Di h hx;obtain⟨A0,c0,S0,A1,c1,S1,rfl,rfl,b0,b1,a0,a1⟩:=PK h6.1;have hz:zQ.size=4:=rfl;rw[hz] at h8 h9;have k0:=h8 0 _ rfl;have k1:=h8 1 _ rfl;have k2:=h8 2 _ rfl;have k3:=h8 3 _ rfl;refine⟨g,h1,h2,h3,h7,⟨_,k3⟩,fun ys Ay cy Sy hy hd=>?_⟩;have hn:=(RM.1 h6.2).1
 obtain⟨g1,S',g2,g3⟩:=h9 [J Z x.li,V x.pu,G A0 x.fL.length c0,G Ay ys.length cy] { x with Expr:=ys } (S0++Sy) (Dr (x:={ x with Expr:=ys }) b0 b1 ⟨a0,hn⟩ hy (fun b hb hm=>hd b hm (h5 b (by simp[hb])))) (fun b hb=>by
  rcases Rr.1 hb with hm | hm
  ·exact .inr (by simp[hm])
  ·exact .inl (hd b hm))
 have hw:setRow w g (k*4) 0 [J Z x.li,V x.pu,G A0 x.fL.length c0,G Ay ys.length cy]=w.setCell ⟨g,k*4+3,C⟩ (G Ay ys.length cy):=by
  simp only[setRow,RF];rw[BU k0,BU k1,BU k2]
 rw[hw] at g1 g2;refine⟨g1,S',g2,fun b hb=>?_⟩;rcases g3 b hb with hm | hm
 ·exact .inl hm
 ·rcases Rr.1 hm with hm | hm
  ·exact .inl (h5 b (by simp[hm]))
  ·exact .inr hm
def oG (xs:Q fw)(k:Nat):Q fw:=(xs.take k).map jY++xs.drop k
theorem N8 (xs:Q fw){k:Nat}(h:k<=xs.length):(oG xs k).length=xs.length:=by unfold oG;simp;omega
theorem IE {xs:Q fw} {x:fw} (h:xs[k]?=D x):(oG xs k)[k]?=D x:=by
 have hk:=(Rd.1 h).1;unfold oG;rw[Sd (by simp;omega)];simp[Ve (Vd hk),h]
theorem Hq {xs:Q fw} {x:fw} (h:xs[k]?=D x):(oG xs k).set k (jY x)=oG xs (k+1):=by
 obtain⟨hk,rfl⟩:=Rd.1 h;unfold oG;have hl:((xs.take k).map jY).length=k:=by simp;omega
 rw[UL _ _ K9,hl,St,Rw hk,List.set_cons_zero,R8,h,Un,RU];rfl
theorem N6 {xs:Q fw} {x:fw} (h:xs[k]?=D x)(h0:jY x=x):oG xs k=oG xs (k+1):=by
 obtain⟨a0,a1⟩:=Rd.1 (IE h);rw[<-Hq h,h0];have e:=List.set_getElem_self a0;rw[a1] at e;exact e.symm
theorem zqU {xs:Q fw} (hx:(zQ.sl 99).R w w.heap.size [G A xs.length c] xs)(hl:xs.length<=1099511627776)(hs:∀ x∈xs,x.fL.length<=1099511627776/\x.Expr.length<=1099511627776) :
  RD prog 195 #[G A xs.length c] w (Jk (qE xs) w):=by
 rcases RX (zx xs) with hp | hp
 rotate_left
 ·have HP:=fh hp
  have HF:Hid (qE xs = []):=fh (by unfold qE;rw[Ro (by rw[hp];decide)]);clear hp;go_enter func195,ntmps195;go_wp2_with(first | (go_at_call 102;(with_reducible refine(zaK hx hl hs).mono ?_);rw[HP.out];rintro e1 v1 ⟨rfl,a2⟩));refine Rj (v:=G (D ⟨v1.heap.size,0,C⟩) 0 0) (by simp[Rv,results195,go_sem]) rfl ?_;exact⟨D ⟨v1.heap.size,0,C⟩,0,[v1.heap.size],by rw[HF.out];rfl,by rw[HF.out];exact Has.Wy zQ (Re _ _),fun b hb=>(by simp only[Rc] at hb;subst hb;exact a2.size),a2.trans gF⟩
 have HP:=fh hp;have HF:Hid (qE xs=xs.map jY):=fh (by unfold qE;rw[Rs hp]);clear hp;go_enter func195,ntmps195;go_wp2_with(first | (go_at_call 102;(with_reducible refine(zaK hx hl hs).mono ?_);rw[HP.out];rintro e1 v1 ⟨rfl,a2⟩) | (go_at_call 201;(with_reducible refine(zsY (Ty.up _ hx (a2.trans gF)) hl hs).mono ?_);rintro e2 v2 ⟨A2,c2,S2,rfl,am,ap,ar⟩));have aa:fu w v2:=a2.trans (fu.trans (b:=_) gF ar);have a9:∀ b∈S2,w.heap.size<=b:=fun b hb=>by have h1:=ap b hb;have h2:=a2.size;(try simp at h1);omega
 go_loopw [4] (fun j wr=>∃(k:Nat) (S:Q Nat),j=J Z k/\k<=xs.length/\Hid (fu w wr)/\Hid (Has (zQ.sl 99) wr [G A2 xs.length c2] (oG xs k) S)/\Hid (∀ b∈S,w.heap.size<=b)) (fun j _=>xs.length-(RS j).toNat)
 case atStart=>exact⟨0,S2,rfl,Rl _,fh (aa.trans gF),fh (by unfold oG;simpa using am.fy gF),fh a9⟩
 case round=>
  obtain⟨k,S,rfl,hk,hG,hH,hS⟩:=hrel;by_cases hlt:k<xs.length
  ·have a0:xs[k]?=D xs[k]:=Rn hlt
   obtain⟨x,ag⟩:∃ x,xs[k]=x:=⟨_,rfl⟩
   rw[ag] at a0;have aF:=N8 xs hk;have a3:=IE a0;obtain⟨g,aI,x',aA,aC,aB,aD,a6,aE,a1,x0,x1,x2,x3,b0,b1,h2,h3⟩:=lS hH.out.read (k:=k) K9;obtain rfl:x'=x:=by rw[a3] at a1;injection a1 with h;exact h.symm
   obtain⟨g9,ab,au,af,ad,⟨u,hu⟩,a4⟩:=Hp hH.out a3;rw[ab] at a6;injection a6 with a6
   injection a6 with e1 e2
   subst e1 e2;subst ab;have ax:(k:Int)<(xs.length:Int):=K9;have az:=(hs x' (Rt a0)).2;simp only[RF] at x0 x1 x2 x3;clear ag a1;by_cases h0:0<x'.Expr.length
   ·have aj:(x'.Expr.length:Int) > 0:=K9
    have ak:0<(x'.Expr.length:Int):=K9;have ah:Hid (jY x' = { x' with Expr:=rp x'.Expr }):=fh (by unfold jY;rw[Rs h0]);have a7:Hid ((oG xs k).set k (jY x')=oG xs (k+1)):=fh (Hq a0);have ai:=fh a3;clear h0 a0 a3 a4 ad hu af;go_wp2_with(first | (go_at_call 202;(with_reducible refine(zqT (Ty.up _ h3 gF) az).mono ?_);rintro e3 v3 ⟨A4,c4,S4,rfl,an,ac,ae⟩;obtain⟨g',a8,av,aw,aq,⟨u',aG⟩,a5⟩:=Hp (hH.out.fy (fu.trans (b:=_) gF ae)) ai.out;injection a8 with a8;injection a8 with e1 e2;subst e1));go_roundw
    case measure=>exact gM
    case rel=>
     have aH:=hG.out.size;obtain⟨ay,S',al,ao⟩:=a5 (rp x'.Expr) A4 c4 S4 an (fun b hb hm=>by have h1:=ac b hb;have h2:=hH.out.lt b hm;(try simp at h1);omega);refine⟨k+1,S',Ar,K9,fh ((ay.fy (hG.out.trans (fu.trans (b:=_) gF ae)) (fun b hb=>by simp only[Rc] at hb;subst hb;exact hS.out _ au)).trans gF),fh ?_,fh (fun b hb=>?_)⟩
     ·rw[<-a7.out,ah.out];exact al.fy gF
     ·rcases ao b hb with h | h
      ·exact hS.out b h
      ·have:=ac b h;(try simp at this);omega
   ·have aj:¬ ((x'.Expr.length:Int) > 0):=K9
    have ak:¬ (0<(x'.Expr.length:Int)):=K9;have a7:Hid (oG xs k=oG xs (k+1)):=fh (N6 a0 (by unfold jY;rw[Ro h0]));clear h0 a0 a3 a4 ad hu af;go_wp2_with(fail);go_roundw;exact⟨k+1,S,Ar,K9,fh (hG.out.trans gF),fh (by rw[<-a7.out];exact hH.out.fy gF),hS⟩;exact gM
  ·obtain rfl:k=xs.length:=K9
   have ax:¬ ((xs.length:Int)<(xs.length:Int)):=K9;go_wp2_with(fail);refine Rj (v:=G A2 xs.length c2) (by simp[Rv,results195,go_sem]) rfl ?_;have h:=hH.out;unfold oG at h;rw[SC,RL,Tl] at h;exact⟨A2,c2,S,by rw[HF.out,Uy],by rw[HF.out,Uy];exact h,hS.out,hG.out⟩
theorem IJ {x:me} {w:Nat} {lo:Int} (h:iy x.Code=(w,M))(hl : -(2 ^ (8*w-1))=lo)(hh:2 ^ (8*w-1)-1=hi):kA x=(fP x.Code 0 17 && fP x.Wv lo hi):=by
 unfold kA;rw[h,<-hl,<-hh];rfl
theorem Dh {x:me} {w:Nat} (h:iy x.Code=(w,I))(hh:2 ^ (8*w)-1=hi):kA x=(fP x.Code 0 17 && fP x.Wv 0 hi):=by
 unfold kA;rw[h,<-hh];rfl
theorem JD {c:Int} {w:Nat} {sg:Bool} (h:iy c=(w,sg))(hb:fP c 0 17=M):zS c=(w:Int)+1:=by
 unfold zS;rw[Rs hb,h]
theorem oh {g:Prop} (f:g:=by
  have HA:=fh hz
  have HW:=fh h
  have HB:=fh hb
  have HZ:=fh (JD h hb)
  clear hb h hz
  go_enter func194,ntmps194
  go_wp2_with(first | (go_at_call 180;(with_reducible refine(zd8 _ _).mono ?_);rw[HW.out];rintro e w1 ⟨rfl,rfl⟩) | (go_at_call 43;(with_reducible refine(gW _ _ _ _).mono ?_);rw[HB.out];rintro e w2 ⟨rfl,rfl⟩) | (go_at_call 43;(with_reducible refine(gW _ _ _ _).mono ?_);rw[HA.out];rintro e w3 ⟨rfl,rfl⟩))
  go_ret
  exact⟨zp HO.out.symm,gG⟩):g:=f
theorem zu9 (x:me)(w:U):RD prog 194 #[.agg #[J Z x.Code,J Z x.Wv]] w fun e w'=>e=.returned (H (kA x))/\fu w w':=by
 cases hb:fP x.Code 0 17
 ·have HO:=fh (show kA x=I from by unfold kA;rw[hb];rfl)
  have HB:=fh hb;have HZ:=fh (show zS x.Code=0 from by unfold zS;rw[hb];rfl);clear hb;go_enter func194,ntmps194;go_wp2_with(first | (go_at_call 180;(with_reducible refine(zd8 _ _).mono ?_);rintro e w1 ⟨rfl,rfl⟩) | (go_at_call 43;(with_reducible refine(gW _ _ _ _).mono ?_);rw[HB.out];rintro e w2 ⟨rfl,rfl⟩));go_ret;exact⟨zp HO.out.symm,gG⟩
 ·rcases AP x.Code with h | h | h | h | h
  ·obtain⟨z,hz⟩:∃ z,fP x.Wv (-2147483648) 2147483647=z:=⟨_,rfl⟩
   have HO:Hid (kA x=z):=fh (by rw[IJ h (lo:=-2147483648) (hi:=2147483647) (by rfl) (by rfl),hb,hz];rfl);exact oh
  ·obtain⟨z,hz⟩:∃ z,fP x.Wv (-32768) 32767=z:=⟨_,rfl⟩
   have HO:Hid (kA x=z):=fh (by rw[IJ h (lo:=-32768) (hi:=32767) (by rfl) (by rfl),hb,hz];rfl);exact oh
  ·obtain⟨z,hz⟩:∃ z,fP x.Wv 0 65535=z:=⟨_,rfl⟩
   have HO:Hid (kA x=z):=fh (by rw[Dh h (hi:=65535) (by rfl),hb,hz];rfl);exact oh
  ·obtain⟨z,hz⟩:∃ z,fP x.Wv 0 255=z:=⟨_,rfl⟩
   have HO:Hid (kA x=z):=fh (by rw[Dh h (hi:=255) (by rfl),hb,hz];rfl);exact oh
  ·obtain⟨z,hz⟩:∃ z,fP x.Wv 0 0=z:=⟨_,rfl⟩
   have HO:Hid (kA x=z):=fh (by rw[Dh h (hi:=0) (by rfl),hb,hz];rfl);exact oh
theorem LN {x:me} (h:kA x=M):0<=x.Code/\x.Code<=17:=by
 unfold kA at h;rw[Rq] at h;exact zu.1 h.1
theorem LM {a:Int} (h:k<n):qm a (n-k) k=pP (a / 2 ^ (8*k))::qm a (n-(k+1)) (k+1):=by
 rw[show n-k=n-(k+1)+1 from K9];rfl
theorem G2 (n:Int):nj.R w B [J .u8 (n % 256)] (pP n):=by
 have h:=Dc (w:=w) (B:=B) (n % 256).toNat K9;rw[Int.toNat_of_nonneg K9] at h;exact h
theorem MZ {n:Int} (h0:0<=n)(h1:n<20):nj.R w B [J .u8 n] (pP n):=by
 have h:=G2 (w:=w) (B:=B) n;rw[show n % 256=n from K9] at h;exact h
theorem zv4 (x:me)(w:U):RD prog 162 #[.agg #[J Z x.Code,J Z x.Wv]] w fun e w'=>e=.returned (V (jR x))/\fu w w':=by
 cases hb:kA x
 ·have HS:=fh (show jR x=⟨#[]⟩ from by unfold jR;rw[hb];rfl)
  have HB:=fh hb;clear hb;go_enter func162,ntmps162;go_wp2_with(go_at_call 194;(with_reducible refine(zu9 x _).mono ?_);rw[HB.out];rintro e w1 ⟨rfl,a4,d1,rfl⟩);go_ret;exact⟨mP HS.out.symm,gG⟩
 ·obtain⟨n,sg,hW⟩:∃ n sg,iy x.Code=(n,sg):=⟨_,_,rfl⟩
  have hn:n<=4:=by have:=rI x.Code;rw[hW] at this;exact this
  have hc:=LN hb;have HS:=fh (show jR x=⟨(pP x.Code::qm x.Wv n 0).toArray⟩ from by unfold jR;rw[hb,hW];rfl);have HB:=fh hb;have HW:=fh hW;clear hb hW;go_enter func162,ntmps162;go_wp2_with(first | (go_at_call 194;(with_reducible refine(zu9 x _).mono ?_);rw[HB.out];rintro e w1 ⟨rfl,a4,d1,rfl⟩) | (go_at_call 180;(with_reducible refine(zd8 _ _).mono ?_);rw[HW.out];rintro e w2 ⟨rfl,rfl⟩));go_loopw [5,6] (fun a b wr=>∃(k:Nat) (a0:Q UInt8) (A:X RJ) (c:Nat),a=G A a0.length c/\b=J Z k/\k<=n/\a0.length=k+1/\Hid (a0++qm x.Wv (n-k) k=pP x.Code::qm x.Wv n 0)/\Hid (fu (w.alloc (F #[J Z x.Code,J Z x.Wv] 142)) wr)/\Hid (fU (nj.sl 5) (w.alloc (F #[J Z x.Code,J Z x.Wv] 142)) wr [G A a0.length c] a0)) (fun _ b _=>n-(RS b).toNat)
  case atStart=>exact⟨0,[pP x.Code],_,1,rfl,rfl,Rl _,rfl,fh II,fh gF,fh (Gv AI (W1:=w) (B:=0) (ec:=[J .u8 (x.Code)]) (MZ hc.1 K9) gF II)⟩
  case round=>
   obtain⟨k,a0,A,c,rfl,rfl,hk,a2,HT,hG,hF⟩:=hrel;obtain⟨os,d,rfl⟩:=hG.out;clear hG;by_cases hlt:k<n
   ·have a3:(k:Int)<(n:Int):=K9
    have a5:Rg Z (8*(k:Int))=8*(k:Int):=iw;have HN:=fh (LM (a:=x.Wv) hlt);go_wp2_with(at_builtin;(refine xS (L:=a0.length+1) rfl (.tmp 25) (.tmp 32) DH AI (W0:=w.alloc (F #[J Z x.Code,J Z x.Wv] 142)) (hF.out.fy gG).mW gG (W1:=w) (B:=0) (ec:=[J .u8 (x.Wv / 2 ^ (8*k) % 256)]) (y:=pP (x.Wv / 2 ^ (8*k))) (G2 _) rfl rfl rfl (by intro j u hu;simpa[go_sem] using hu) rfl K9 K9 ?_);intro A2 c2 a6 d2 a1);go_roundw;exact⟨k+1,a0++[pP (x.Wv / 2 ^ (8*k))],A2,c2,by simp;omega,Ar,K9,by simp;omega,fh (by rw[<-HT.out,HN.out];simp),fh gG,fh (by simpa using a1)⟩;exact gM
   ·obtain rfl:k=n:=K9
    have a3:¬ ((k:Int)<(k:Int)):=K9;have HE:Hid (a0=pP x.Code::qm x.Wv k 0):=fh (by have h:=HT.out;rw[St] at h;simpa[qm] using h);have kc:=Fk hF.out.read;rw[a2] at kc;go_wp2_with(fail);go_ret;exact⟨mP (by rw[HS.out,HE.out]),gG⟩
theorem tx (h:(uc.sl e).R w B [G A n c] xs){k:Nat}(hk:k<xs.length) :
  ∃ g off x A0 c0,A=D ⟨g,off,C⟩/\g<B/\xs[k]?=D x/\Rb w ⟨g,off+k*8,C⟩=D (J Z x.us)/\Rb w ⟨g,off+k*8+1,C⟩=D (J Z x.lw.Op.Code)/\Rb w ⟨g,off+k*8+2,C⟩=D (J Z x.lw.Op.Wv)/\Rb w ⟨g,off+k*8+3,C⟩=D (J Z x.lw.fG)/\Rb w ⟨g,off+k*8+4,C⟩=D (H x.lw.kw)/\Rb w ⟨g,off+k*8+5,C⟩=D (G A0 x.lw.fB.length c0)/\Rb w ⟨g,off+k*8+6,C⟩=D (J Z x.lw.fF)/\Rb w ⟨g,off+k*8+7,C⟩=D (H x.lw.fD)/\fE x.us/\fE x.lw.Op.Code/\fE x.lw.Op.Wv/\fE x.lw.fG/\(zr.sl 3).R w B [G A0 x.lw.fB.length c0] x.lw.fB/\fE x.lw.fF:=by
 obtain⟨g,off,x,ec,h1,hB,h2,h3,h4⟩:=nU h hk;obtain⟨A0,c0,rfl,hf⟩:=O0 h3;exact⟨g,off,x,A0,c0,h1,hB,h2,h4 0 _ rfl,h4 1 _ rfl,h4 2 _ rfl,h4 3 _ rfl,h4 4 _ rfl,h4 5 _ rfl,h4 6 _ rfl,h4 7 _ rfl,hf⟩
def O6 (xs:Q iu)(w:U)(r:Ending)(w':U):Prop:=∃ A c S,r=.returned (G A xs.length c)/\Has (lE.sl 216) w' [G A xs.length c] xs S/\(∀ b∈S,w.heap.size<=b)/\fu w w'
def qy (xs:Q fK)(k:Nat):X fM:=match k with
 | 0=>C
 | j+1=>xs[j]?.map fK.lw
def yN (x:fK):iu:=⟨x.us,x.lw.fG,x.lw.kw⟩
theorem xV (hx:xs[k]?=D x)(h:∀ y,qy xs k=D y->¬ (x.lw.kw=I/\y.kw=I/\y.fG=x.lw.fG)):ry (qy xs k) (xs.drop k)=yN x::ry (qy xs (k+1)) (xs.drop (k+1)):=by
 obtain⟨h1,rfl⟩:=Rd.1 hx;rw[Rw h1];have hp:qy xs (k+1)=D xs[k].lw:=by simp[qy,h1]
 rw[hp];cases hq:qy xs k with
 | none=>rfl
 | some y=>
  show (if _ then [] else [_])++_=_;rw[Ro (h y hq)];rfl
theorem KZ {y:fM} (hx:xs[k]?=D x)(hq:qy xs k=D y)(h:x.lw.kw=I/\y.kw=I/\y.fG=x.lw.fG):ry (qy xs k) (xs.drop k)=ry (qy xs (k+1)) (xs.drop (k+1)):=by
 obtain⟨h1,rfl⟩:=Rd.1 hx;rw[Rw h1];have hp:qy xs (k+1)=D xs[k].lw:=by simp[qy,h1]
 rw[hp,hq];show (if _ then [] else [_])++_=_;rw[Rs h];rfl
theorem Qn {g:Nat} {o0 o1 o2 o3 o4 o5 o6 o7:Value} (h:W.heap[g]?=D (F #[o0,o1,o2,o3,o4,o5,o6,o7] e (0,0))) :
  Rb W ⟨g,0,C⟩=D o0/\Rb W ⟨g,1,C⟩=D o1/\Rb W ⟨g,2,C⟩=D o2/\Rb W ⟨g,3,C⟩=D o3/\Rb W ⟨g,4,C⟩=D o4/\Rb W ⟨g,5,C⟩=D o5/\Rb W ⟨g,6,C⟩=D o6/\Rb W ⟨g,7,C⟩=D o7/\(∀ j,Rx W ⟨g,j,C⟩=I)/\g<W.heap.size:=by
 refine⟨?_,?_,?_,?_,?_,?_,?_,?_,fun j=>by simp[Rx,h],(blt h)⟩
 all_goals
  rw[Sw W g _ _ _ (0,0) h]
  rfl
theorem mC {p:RJ} (h:w.cell? p=D v)(n:Nat):(w.drewN n).cell? p=D v:=za ((fu.refl _).drewN n) h
theorem Nk (x:fK){b:Bool}(h:x.lw.kw=b)(h0:fE x.us)(h1:fE x.lw.fG):lE.R w B [J Z x.us,J Z x.lw.fG,H b] (yN x):=by
 subst h;exact Hx (x:=yN x) h0 h1
theorem zvn (hx:(uc.sl 229).R w w.heap.size [G A xs.length c] xs)(hl:xs.length<=1000000) :
  RD prog 127 #[G A xs.length c] w (O6 (sK xs) w):=by
 go_enter func127,ntmps127;go_wp2_with(fail);go_loopw [3,4] (fun z j wr=>∃(k:Nat) (A5:X RJ) (c5:Nat) (S:Q Nat) (a0:Q iu),z=G A5 a0.length c5/\j=J Z k/\k<=xs.length/\Hid (fu w wr)/\Hid (Has (lE.sl 216) wr [G A5 a0.length c5] a0 S)/\Hid (∀ b∈S,w.heap.size<=b)/\Hid (a0++ry (qy xs k) (xs.drop k)=sK xs)/\a0.length<=k) (fun _ j _=>xs.length-(RS j).toNat)
 case atStart=>exact⟨0,_,0,[w.heap.size],[],rfl,rfl,Rl _,fh gF,fh (Has.Wy lE (zj (Re _ _) gF)),fh (fun b hb=>by simp only[Rc] at hb;omega),fh rfl,II⟩
 case round=>
  obtain⟨k,A5,c5,S,a0,rfl,rfl,hk,hG,hH,hS,hA,aA⟩:=hrel;by_cases hlt:k<xs.length
  ·obtain⟨g,ak,x,a9,ab,rfl,aB,a3,x0,x1,x2,x3,x4,x5,x6,x7,b0,b1,b2,b3,h5,b6⟩:=tx hx hlt
   have av:(k:Int)<(xs.length:Int):=K9;have aC:Rg Z ((k:Int)+1)=(k:Int)+1:=iw;have x0:=za hG.out x0;have x1:=za hG.out x1;have x2:=za hG.out x2;have x3:=za hG.out x3;have x4:=za hG.out x4;have x5:=za hG.out x5;have x6:=za hG.out x6;have x7:=za hG.out x7;obtain⟨bs,ad⟩:∃ b,x.lw.kw=b:=⟨_,rfl⟩
   rw[ad] at x4;have a7:=fh ad;clear ad;go_upto_region 6 with(fail);have eb:(wr.alloc (F #[J Z x.lw.Op.Code,J Z x.lw.Op.Wv,J Z x.lw.fG,H bs,G a9 x.lw.fB.length ab,J Z x.lw.fF,H x.lw.fD] 227)).heap[wr.heap.size]?=D (F #[J Z x.lw.Op.Code,J Z x.lw.Op.Wv,J Z x.lw.fG,H bs,G a9 x.lw.fB.length ab,J Z x.lw.fF,H x.lw.fD] 227 (0,0)):=Re _ _;have a1:fu wr (wr.alloc (F #[J Z x.lw.Op.Code,J Z x.lw.Op.Wv,J Z x.lw.fG,H bs,G a9 x.lw.fB.length ab,J Z x.lw.fF,H x.lw.fD] 227)):=(fu.refl _).alloc _;obtain⟨g5,ae⟩:∃ g,wr.heap.size=g:=⟨_,rfl⟩
   have ax:w.heap.size<=wr.heap.size:=hG.out.size;rw[ae] at eb ax |-;have al:=fh ae;clear ae;generalize (wr.alloc _)=Y at eb a1 |-;obtain⟨o0,o1,o2,o3,o4,o5,o6,of,ol⟩:=zK eb;have x0:=za a1 x0;have hb:bs=M∨bs=I:=by cases bs <;> simp
   have a2:0<k∨k=0:=K9;refine Vk hb (fun hb=>Vk a2 (fun a2=>?tp) (fun a2=>?tz)) (fun hb=>Vk a2 (fun a2=>?fp) (fun a2=>?fz))
   case' tp=>
    have a4:(0:Int)<(k:Int):=K9;have a5:=fh (xV a3 (fun y hy hh=>by rw[a7.out,hb] at hh;exact Bool.noConfusion hh.1))
   case' tz=>
    have a4:¬ ((0:Int)<(k:Int)):=K9;have ag:¬ (0<k):=K9;have a5:=fh (xV a3 (fun y hy hh=>by rw[a7.out,hb] at hh;exact Bool.noConfusion hh.1));clear a2
   case' fz=>
    have a4:¬ ((0:Int)<(k:Int)):=K9;have ag:¬ (0<k):=K9;have a5:=fh (xV a3 (fun y hy hh=>by rw[a2] at hy;cases hy));clear a2
   case' fp=>
    have a4:(0:Int)<(k:Int):=K9;obtain⟨j,hj⟩:∃ j,k=j+1:=⟨k-1,K9⟩
    have ar:j<xs.length:=K9;obtain⟨g',ai,q,ay,az,ac,aq,aj,q0,q1,q2,q3,q4,_⟩:=tx hx ar;injection ac with ac
    injection ac with hAA1 hAA2
    obtain rfl:g=g':=hAA1;obtain rfl:ak=ai:=hAA2;have q3:=za (hG.out.trans a1) q3;have q4:=za (hG.out.trans a1) q4;have aw:Rg Z ((k:Int)-1)=(j:Int):=by rw[hj];show Rg Z (((j+1:Nat):Int)-1)=_;rw[show ((j+1:Nat):Int)-1=(j:Int) from K9];exact iw
    have au:(j:Int)<(xs.length:Int):=K9;have aa:Hid (qy xs k=D q.lw):=fh (by rw[hj];show (xs[j]?.map fK.lw)=_;rw[aj];rfl);clear hj aj;refine Vk (show q.lw.kw=M∨q.lw.kw=I by cases q.lw.kw <;> simp) (fun hqs=>Vk (show (q.lw.fG == x.lw.fG)=M∨(q.lw.fG == x.lw.fG)=I by cases (q.lw.fG == x.lw.fG) <;> simp) (fun ah=>?qa) (fun ah=>?qb)) (fun hqs=>Vk (Classical.em (q.lw.fG=x.lw.fG)) (fun hql=>?qc) (fun hql=>?qd))
   case' qa | qb=>
    rw[hqs] at q4;have a5:=fh (xV a3 (fun y hy hh=>by rw[aa.out] at hy;injection hy with hy;rw[<-hy,hqs] at hh;exact Bool.noConfusion hh.2.1))
   case' qd=>
    rw[hqs] at q4;have ah:(q.lw.fG == x.lw.fG)=I:=Rm.2 hql;have a5:=fh (xV a3 (fun y hy hh=>by rw[aa.out] at hy;injection hy with hy;rw[<-hy] at hh;exact hql hh.2.2));clear hql hqs
   case qc=>
    rw[hqs] at q4;have ah:(q.lw.fG == x.lw.fG)=M:=RQ.2 hql;have am:=fh (KZ a3 aa.out ⟨a7.out.trans hb,hqs,hql⟩);clear a3 hqs hql;go_quiet (fail);go_wp2_with(fail);go_roundw;exact⟨k+1,A5,c5,S,a0,rfl,Ar,K9,fh ((hG.out.trans a1).trans gF),fh ((hH.out.fy a1).fy gF),hS,fh (by rw[<-hA.out,am.out]),K9⟩;exact gM
   all_goals
    clear a3
    go_quiet (fail)
    have a6:g5∉S:=fun hm=>by have h:=hH.out.lt g5 hm;have h2:=al.out;omega
    have ap:g∉S:=fun hm=>by have h:=hS.out g hm;omega
    have af:g<Y.heap.size:=K9
    go_upto_region 7 with(fail)
    go_region_held3 (fun w'=>Rb w' ⟨g5,2,C⟩=D (J Z x.lw.fG)/\Rb w' ⟨g5,3,C⟩=D (H bs)/\Rb w' ⟨g,ak+k*8,C⟩=D (J Z x.us)) ((repeat' apply Rf) <;> ((repeat (first | with_reducible assumption | with_reducible refine zd ?_ _ _ | with_reducible refine zo ?_ _ | with_reducible refine zc ?_ | with_reducible refine mC ?_ _));done)) (first | (refine pY (L:=a0.length+1) rfl (.tmp 47) (.tmp 58) Jm Im ((hH.out.fy a1).fy gF) (W1:=w) (B:=0) (ec:=[J Z x.us,J Z x.lw.fG,H _]) (y:=yN x) (Nk x (a7.out.trans hb) b0 b3) rfl rfl rfl (by intro j u hu;simpa[go_sem] using hu) rfl K9 K9 ?_;intro A8 c8 W8 S8 a8 an ao;have o2:=(a8.cell (g:=g5) (Ri ol (fu.size gF)) a6 _).trans (za gF o2);have o3:=(a8.cell (g:=g5) (Ri ol (fu.size gF)) a6 _).trans (za gF o3);have x0:=(a8.cell (g:=g) (Ri af (fu.size gF)) ap _).trans (za gF x0)))
    all_goals go_wp2_with(fail)
    go_roundw
    exact⟨k+1,A8,c8,S8,a0++[yN x],by rw[Rh];rfl,Ar,K9,fh (a8.fy ((hG.out.trans a1).trans gF) hS.out),fh (by rw[Rh];exact an),fh (fun b hb=>(ao b hb).elim (hS.out b) (fun h=>RG (((hG.out.trans a1).trans gF)).size h)),fh (by rw[<-hA.out,a5.out,RU];rfl),by rw[Rh,R4];omega⟩
    exact gM
  ·obtain rfl:k=xs.length:=K9
   have av:¬ ((xs.length:Int)<(xs.length:Int)):=K9;have HE:Hid (a0=sK xs):=fh (by have h:=hA.out;rw[RL] at h;simpa[ry] using h);go_wp2_with(fail);exact Rj (v:=G A5 a0.length c5) (by simp[Rv,results127,go_sem]) rfl (by rw[<-HE.out];exact⟨A5,c5,S,rfl,hH.out,hS.out,hG.out⟩)
def OL (xs:Q gK)(w:U)(r:Ending)(w':U):Prop:=∃ A c S,r=.returned (G A xs.length c)/\Has (kK.sl 205) w' [G A xs.length c] xs S/\(∀ b∈S,w.heap.size<=b)/\fu w w'
def tZ (x:fK):gK:=⟨x.us,x.us+zS x.lw.Op.Code,x.lw.fD,x.lw.fF⟩
theorem Pr {xs:Q gK} (h:Has (kK.sl e) W [G A n c] xs S)(hq:xs[m]?=D q):∃ g,A=D ⟨g,0,C⟩/\g∈S/\g<W.heap.size/\(∀ j,Rx W ⟨g,j,C⟩=I)/\
  Rb W ⟨g,m*4,C⟩=D (J Z q.kw)/\Rb W ⟨g,m*4+1,C⟩=D (J Z q.PP)/\Rb W ⟨g,m*4+2,C⟩=D (H q.Frame)/\Rb W ⟨g,m*4+3,C⟩=D (J Z q.fF)/\
  ∀ v,fE v->Has (kK.sl e) (W.setCell ⟨g,m*4+1,C⟩ (J Z v)) [G A n c] (xs.set m { q with PP:=v }) S/\fx S W (W.setCell ⟨g,m*4+1,C⟩ (J Z v)):=by
 obtain⟨g,ec,Sc,rfl,a1,a2,_,_,_,hO,hf,hc,a0,_⟩:=qh h.1 h.2 hq;obtain⟨rfl,rfl,b0,b1,b2⟩:=PM hO;refine⟨g,rfl,a1,a2,hf,hc 0 _ rfl,hc 1 _ rfl,hc 2 _ rfl,hc 3 _ rfl,fun v hv=>?_⟩;have hp:=a0 1 (J Z v) { q with PP:=v } qo rfl (Nl (x:={ q with PP:=v }) b0 hv b2);exact⟨⟨hp.1,h.2⟩,hp.2⟩
theorem Xn {g:Prop} (f:g:=by
  by_cases hjm:j<m
  ·rw[SK (by simp;omega),List.getElem?_dropLast,Rs K9]
  ·rw[To (by simp;omega),To K9]):g:=f
theorem JT (hq:acc[m]?=D q)(hn:acc.length=m+1)(h:q.PP=x.us/\q.Frame=x.lw.fD/\q.fF=x.lw.fF):qj acc x=acc.set m { q with PP:=x.us+zS x.lw.Op.Code }:=by
 have hl:acc.getLast?=D q:=by rw[Uu,hn];exact hq
 unfold qj;simp only[hl];rw[Rs h];apply U3;intro j;rw[U2];by_cases hj:m=j
 ·subst hj
  rw[Rs rfl,Rs K9,Sd (by simp;omega)];simp[hn]
 ·rw[Ro hj]
  exact Xn
theorem JU (hq:acc[m]?=D q)(hn:acc.length=m+1)(h:¬ (q.PP=x.us/\q.Frame=x.lw.fD/\q.fF=x.lw.fF)):qj acc x=acc++[tZ x]:=by
 have hl:acc.getLast?=D q:=by rw[Uu,hn];exact hq
 unfold qj;simp only[hl];rw[Ro h];rfl
theorem GZ {α β:Type} {f:β->α->β} {xs:Q α} {x:α} {b:β} (h:xs[k]?=D x):(xs.drop k).foldl f b=(xs.drop (k+1)).foldl f (f b x):=by
 obtain⟨h1,rfl⟩:=Rd.1 h;rw[Rw h1];rfl
theorem N9 (h:xs[k]?=D x):qu (xs.drop k)=(fP x.us 0 1000000 && qu (xs.drop (k+1))):=by
 obtain⟨h1,rfl⟩:=Rd.1 h;rw[Rw h1];rfl
theorem GB (h:qu xs=M)(hx:xs[k]?=D x):0<=x.us/\x.us<=1000000:=by
 unfold qu at h;rw[Td] at h;exact zu.1 (h x (Rt hx))
theorem AN (c:Int):0<=zS c/\zS c<=5:=by
 unfold zS;split
 ·have:=rI c
  omega
 ·omega
theorem zn4 (hx:(uc.sl 229).R w w.heap.size [G A xs.length c] xs)(hl:xs.length<=1000000) :
  RD prog 168 #[G A xs.length c] w fun e w'=>e=.returned (H (qu xs))/\fu w w':=by
 go_enter func168,ntmps168;go_wp2_with(fail);go_loopw [3] (fun j wr=>∃ k:Nat,j=J Z k/\k<=xs.length/\Hid (fu w wr)/\Hid (qu (xs.drop k)=qu xs)) (fun j _=>xs.length-(RS j).toNat)
 case atStart=>exact⟨0,rfl,Rl _,fh gF,fh rfl⟩
 case round=>
  obtain⟨k,rfl,hk,hG,hN⟩:=hrel;by_cases hlt:k<xs.length
  ·obtain⟨g,a6,x,a2,a3,rfl,a4,a0,x0,_⟩:=tx hx hlt
   have a1:(k:Int)<(xs.length:Int):=K9;have a5:Rg Z ((k:Int)+1)=(k:Int)+1:=iw;have x0:=za hG.out x0;obtain⟨b,hb⟩:∃ b,fP x.us 0 1000000=b:=⟨_,rfl⟩
   have HA:=fh (N9 a0);have HB:=fh hb;clear a0 hb;cases b with
   | true=>
    go_wp2_with(first | (go_at_call 43;(with_reducible refine(gW _ _ _ _).mono ?_);rw[HB.out];rintro e w2 ⟨rfl,rfl⟩));go_roundw;exact⟨k+1,Ar,K9,hG,fh (by rw[<-hN.out,HA.out,HB.out];rfl)⟩;exact gM
   | false=>
    go_wp2_with(first | (go_at_call 43;(with_reducible refine(gW _ _ _ _).mono ?_);rw[HB.out];rintro e w2 ⟨rfl,rfl⟩));go_ret;exact⟨zp (by rw[<-hN.out,HA.out,HB.out];rfl),hG.out⟩
  ·obtain rfl:k=xs.length:=K9
   have a1:¬ ((xs.length:Int)<(xs.length:Int)):=K9;have HE:Hid (qu xs=M):=fh (by rw[<-hN.out,RL];rfl);go_wp2_with(fail);go_ret;exact⟨zp HE.out.symm,hG.out⟩
theorem WK {g:Prop} (f:g:=by
  go_upto_region 10 with(fail)
  go_quiet (fail)
  go_wp2_with(first | (refine zD (L:=m+1+1) rfl (.tmp 84) (.tmp 86) C5 Ce (hH2.out.fy gF) (W1:=w) (B:=0) (ec:=[J Z x.us,J Z (x.us+zS x.lw.Op.Code),H x.lw.fD,J Z x.lw.fF]) (y:=tZ x) (Cf (x:=tZ x) b0 hoI b6) rfl rfl rfl (by intro j u hu;simpa[go_sem] using hu) rfl K9 K9 ?_;intro A8 c8 W8 S8 hon hH8 hS8))
  go_roundw
  exact⟨k+1,m+1+1,A8,c8,S8,acc++[tZ x],rfl,Ar,K9,K9,fh (by rw[Rh,hn.out];rfl),fh (hon.fy ((hG.out.trans hgwx).trans gF) hS.out),fh hH8,fh (fun b hb=>(hS8 b hb).elim (hS.out b) (fun h=>RG (((hG.out.trans hgwx).trans gF)).size h)),fh (by rw[<-hA.out,HF.out,HP.out])⟩
  exact gM):g:=f
theorem ztS (hx:(uc.sl 229).R w w.heap.size [G A xs.length c] xs)(hl:xs.length<=1000000) :
  RD prog 126 #[G A xs.length c] w (OL (oX xs) w):=by
 obtain⟨nb,ac⟩:∃ b,qu xs=b:=⟨_,rfl⟩
 have a0:=fh ac;clear ac;cases nb with
 | false=>
  have HE:Hid (oX xs = []):=fh (by unfold oX;rw[a0.out];rfl);go_enter func126,ntmps126;go_wp2_with(first | (go_at_call 168;(with_reducible refine(zn4 (Ty.up _ hx gF) hl).mono ?_);rw[a0.out];rintro e w1 ⟨rfl,a1⟩));exact Rj (v:=G (D ⟨w.heap.size,0,C⟩) 0 0) (by simp[Rv,results126,go_sem]) rfl (by rw[HE.out];exact⟨_,0,[w.heap.size],rfl,Has.Wy kK (zj (Re w (F #[] 205)) (fu.trans (b:=_) gF a1)),fun b hb=>by simp only[Rc] at hb;omega,fu.trans (b:=_) gF a1⟩)
 | true=>
 have HE:Hid (oX xs=xs.foldl qj []):=fh (by unfold oX;rw[a0.out];rfl);go_enter func126,ntmps126;go_wp2_with(first | (go_at_call 168;(with_reducible refine(zn4 (Ty.up _ hx gF) hl).mono ?_);rw[a0.out];rintro e w1 ⟨rfl,a1⟩));go_loopw [3,4] (fun z j wr=>∃(k n:Nat) (A5:X RJ) (c5:Nat) (S:Q Nat) (acc:Q gK),z=G A5 n c5/\j=J Z k/\k<=xs.length/\n<=k/\Hid (acc.length=n)/\Hid (fu w wr)/\Hid (Has (kK.sl 205) wr [G A5 n c5] acc S)/\Hid (∀ b∈S,w.heap.size<=b)/\Hid ((xs.drop k).foldl qj acc=oX xs)) (fun _ j _=>xs.length-(RS j).toNat)
 case atStart=>exact⟨0,0,_,0,[w.heap.size],[],rfl,rfl,Rl _,Rl _,fh rfl,fh (fu.trans (b:=_) gF a1),fh (Has.Wy kK (zj (Re w (F #[] 205)) (fu.trans (b:=_) gF a1))),fh (fun b hb=>by simp only[Rc] at hb;omega),fh HE.out.symm⟩
 case round=>
  obtain⟨k,n,A5,c5,S,acc,rfl,rfl,hk,ar,hn,hG,hH,hS,hA⟩:=hrel;by_cases hlt:k<xs.length
  ·obtain⟨g,az,x,a5,a7,rfl,ao,aa,x0,x1,x2,x3,x4,x5,x6,x7,b0,b1,b2,b3,h5,b6⟩:=tx hx hlt
   have ak:(k:Int)<(xs.length:Int):=K9;have aw:Rg Z ((k:Int)+1)=(k:Int)+1:=iw;have au:=GB a0.out aa;have av:=AN x.lw.Op.Code;have hoI:fE (x.us+zS x.lw.Op.Code):=⟨K9,K9⟩
   have ay:Rg Z (x.us+zS x.lw.Op.Code)=x.us+zS x.lw.Op.Code:=iw;have HF:=fh (GZ (f:=qj) (b:=acc) aa);have x0:=za hG.out x0;have x1:=za hG.out x1;have x2:=za hG.out x2;have x3:=za hG.out x3;have x4:=za hG.out x4;have x5:=za hG.out x5;have x6:=za hG.out x6;have x7:=za hG.out x7;clear aa;go_upto_region 8 with(fail);have eb:(wr.alloc (F #[J Z x.us,J Z x.lw.Op.Code,J Z x.lw.Op.Wv,J Z x.lw.fG,H x.lw.kw,G a5 x.lw.fB.length a7,J Z x.lw.fF,H x.lw.fD] 229)).heap[wr.heap.size]?=D (F #[J Z x.us,J Z x.lw.Op.Code,J Z x.lw.Op.Wv,J Z x.lw.fG,H x.lw.kw,G a5 x.lw.fB.length a7,J Z x.lw.fF,H x.lw.fD] 229 (0,0)):=Re _ _;have ab:fu wr (wr.alloc (F #[J Z x.us,J Z x.lw.Op.Code,J Z x.lw.Op.Wv,J Z x.lw.fG,H x.lw.kw,G a5 x.lw.fB.length a7,J Z x.lw.fF,H x.lw.fD] 229)):=(fu.refl _).alloc _;obtain⟨g5,a8⟩:∃ g,wr.heap.size=g:=⟨_,rfl⟩
   rw[a8] at eb |-;have ad:=fh a8;clear a8;generalize (wr.alloc _)=Y at eb ab |-;obtain⟨o0,o1,o2,o3,o4,o5,o6,o7,of,ol⟩:=Qn eb;go_cut [6] from 23 to 39 (fun v wx=>∃ g6,v=.pointer (D ⟨g6,0,C⟩)/\fu Y wx/\wx.heap[g6]?=D (F #[J Z x.us,J Z (x.us+zS x.lw.Op.Code),H x.lw.fD,J Z x.lw.fF] 205 (0,0))/\Y.heap.size<=g6)
   case first=>
    go_region_held3 (fun w'=>Rb w' ⟨g5,0,C⟩=D (J Z x.us)/\Rb w' ⟨g5,1,C⟩=D (J Z x.lw.Op.Code)/\Rb w' ⟨g5,6,C⟩=D (J Z x.lw.fF)/\Rb w' ⟨g5,7,C⟩=D (H x.lw.fD)) ((repeat' apply Rf) <;> ((repeat (first | with_reducible assumption | with_reducible refine zd ?_ _ _ | with_reducible refine zo ?_ _ | with_reducible refine zc ?_ | with_reducible refine mC ?_ _));done)) (first | (go_at_call 167;(with_reducible refine(zga _ _).mono ?_);rintro e w' ⟨rfl,rfl⟩))
    all_goals go_wp2_with(fail)
    all_goals go_meet
    all_goals exact⟨_,rfl,gF,zj (Re Y _) gF,Ru _⟩
   case rest=>
    obtain⟨g6,rfl,af,ae,al⟩:=hcut;have hgwx:fu wr wc:=ab.trans af;obtain⟨r0,r1,r2,r3,rf,rl⟩:=iL ae;have hH2:=fh (hH.out.fy hgwx);clear x0 x1 x2 x3 x4 x5 x6 x7 o0 o1 o2 o3 o4 o5 o6 o7 of eb;cases n with
    | zero=>
     have hz:¬ ((0:Int) > 0):=K9;have HP:Hid (qj acc x=acc++[tZ x]):=fh (by rw[TH.1 hn.out];rfl);go_upto_region 10 with(fail);go_quiet (fail);go_wp2_with(first | (refine zD (L:=0+1) rfl (.tmp 84) (.tmp 86) C5 Ce (hH2.out.fy gF) (W1:=w) (B:=0) (ec:=[J Z x.us,J Z (x.us+zS x.lw.Op.Code),H x.lw.fD,J Z x.lw.fF]) (y:=tZ x) (Cf (x:=tZ x) b0 hoI b6) rfl rfl rfl (by intro j u hu;simpa[go_sem] using hu) rfl K9 K9 ?_;intro A8 c8 W8 S8 hon hH8 hS8));go_roundw;exact⟨k+1,0+1,A8,c8,S8,acc++[tZ x],rfl,Ar,K9,K9,fh (by rw[Rh,hn.out];rfl),fh (hon.fy ((hG.out.trans hgwx).trans gF) hS.out),fh hH8,fh (fun b hb=>(hS8 b hb).elim (hS.out b) (fun h=>RG (((hG.out.trans hgwx).trans gF)).size h)),fh (by rw[<-hA.out,HF.out,HP.out])⟩;exact gM
    | succ m=>
     obtain⟨q,hq⟩:∃ q,acc[m]?=D q:=⟨_,Rn (by have:=hn.out;omega)⟩
     obtain⟨gr,ag,a9,aj,ai,q0,q1,q2,q3,a2⟩:=Pr hH2.out hq;subst ag;have a6:=fh a2;have aq:(0:Int)<((m:Int)+1):=K9;have am:(((m+1:Nat):Int)) > 0:=K9;have ax:Rg Z ((m:Int)+1-1)=(m:Int):=by rw[TB];exact iw
     have an:Rg Z (m:Int)=(m:Int):=iw;have ap:(m:Int)<(m:Int)+1:=K9;have ah:gr≠g6:=fun e=>by have h:=hH.out.lt gr a9;have h2:=ad.out;rw[<-e] at al;omega
     clear a2;have a4:=fun h=>JU (x:=x) hq hn.out h;have a3:=fun h=>JT (x:=x) hq hn.out h;have KP:=fh a4;have KJ:=fh a3;clear a4 a3 hq;by_cases e1:q.PP=x.us
     ·by_cases e2:q.Frame=x.lw.fD
      ·by_cases e3:q.fF=x.lw.fF
       ·have HJ:=fh (KJ.out ⟨e1,e2,e3⟩)
        have f1:(q.PP == x.us)=M:=RQ.2 e1;have f2:(q.Frame == x.lw.fD)=M:=RQ.2 e2;have f3:(q.fF == x.lw.fF)=M:=RQ.2 e3;clear e1 e2 e3;go_upto_region 10 with(fail);go_quiet (fail);go_wp2_with(fail);have hj:=a6.out (x.us+zS x.lw.Op.Code) hoI;go_roundw;exact⟨k+1,m+1,D ⟨gr,0,C⟩,c5,S,acc.set m { q with PP:=x.us+zS x.lw.Op.Code },rfl,Ar,K9,K9,fh (by rw[RP];exact hn.out),fh ((hj.2.fy (hG.out.trans hgwx) hS.out).trans gF),fh (hj.1.fy gF),hS,fh (by rw[<-hA.out,HF.out,HJ.out])⟩;exact gM
       ·have HP:=fh (KP.out (fun h=>e3 h.2.2))
        have f1:(q.PP == x.us)=M:=RQ.2 e1;have f2:(q.Frame == x.lw.fD)=M:=RQ.2 e2;have f3:(q.fF == x.lw.fF)=I:=Rm.2 e3;clear e1 e2 e3;exact WK
      ·have HP:=fh (KP.out (fun h=>e2 h.2.1))
       have f1:(q.PP == x.us)=M:=RQ.2 e1;have f2:(q.Frame == x.lw.fD)=I:=Rm.2 e2;clear e1 e2;exact WK
     ·have HP:=fh (KP.out (fun h=>e1 h.1))
      have f1:(q.PP == x.us)=I:=Rm.2 e1;clear e1;exact WK
  ·obtain rfl:k=xs.length:=K9
   have ak:¬ ((xs.length:Int)<(xs.length:Int)):=K9;have HR:Hid (acc=oX xs):=fh (by have h:=hA.out;rw[RL] at h;exact h);go_wp2_with(fail);exact Rj (v:=G A5 n c5) (by simp[Rv,results126,go_sem]) rfl (by rw[<-HR.out];exact⟨A5,c5,S,by rw[hn.out],by rw[hn.out];exact hH.out,hS.out,hG.out⟩)
theorem Ke {xs:Q fw} {x:fw} (h:xs[i]?=D x)(hi:i<=k)(s:N):wu (xs.drop i) (k+1-i) s=wu (xs.drop (i+1)) (k+1-(i+1)) (if x.li=0 then x.pu else s):=by
 obtain⟨h1,rfl⟩:=Rd.1 h;rw[Rw h1,show k+1-i=k+1-(i+1)+1 from K9];rfl
theorem EE {k:Int} (h:¬ (0<=k/\k<p.length)):pB p k=Wy:=Ro h
theorem Kl (h:k<p.length):pB p (k:Int)=wu p (k+1) Wy:=by
 unfold pB;rw[Rs ⟨K9,K9⟩];rfl
theorem uW {g:Prop} (f:g:=by
  go_enter func22,ntmps22
  go_wp2_with(fail)
  go_loopw [5,6] (fun z j wr=>z=V Wy/\j=J Z 0/\Hid (fu w wr)) (fun _ j _=>0)
  case atStart=>exact⟨rfl,rfl,fh gF⟩
  case round=>
   obtain⟨rfl,rfl,hG⟩:=hrel
   go_wp2_with(fail)
   go_ret
   exact⟨mP HL.out.symm,hG.out⟩):g:=f
theorem zlq {k:Int} (hx:(zQ.sl 99).R w w.heap.size [G A p.length c] p)(hl:p.length<=1000000) :
  RD prog 22 #[G A p.length c,J Z k] w fun e w'=>e=.returned (V (pB p k))/\fu w w':=by
 by_cases hk0:0<=k
 ·by_cases hkl:k<p.length
  ·obtain⟨n,rfl⟩:=RE hk0
   have a5:n<p.length:=K9;have HL:=fh (Kl a5);go_enter func22,ntmps22;go_wp2_with(fail);go_loopw [5,6] (fun z j wr=>∃(i:Nat) (s:N),z=V s/\j=J Z i/\i<=n+1/\Hid (fu w wr)/\Hid (wu (p.drop i) (n+1-i) s=pB p n)) (fun _ j _=>n+1-(RS j).toNat)
   case atStart=>exact⟨0,_,rfl,rfl,Rl _,fh gF,fh HL.out.symm⟩
   case round=>
    obtain⟨i,s,rfl,rfl,hi,hG,hN⟩:=hrel;by_cases hle:i<=n
    ·have a4:i<p.length:=K9
     obtain⟨g,ad,x,a6,a8,a7,a9,rfl,aa,a0,x0,x1,x2,x3,b0,b1,_⟩:=lS hx a4;have a2:(i:Int)<=(n:Int):=K9;have ab:(i:Int)<(p.length:Int):=K9;have ac:Rg Z ((i:Int)+1)=(i:Int)+1:=iw;have x0:=za hG.out x0;have x1:=za hG.out x1;have HA:=fh (Ke a0 hle s);clear a0;by_cases h0:x.li=0
     ·have a1:(x.li == 0)=M:=RQ.2 h0
      have HS:Hid ((if x.li=0 then x.pu else s)=x.pu):=fh (Rs h0);clear h0;go_wp2_with(fail);go_roundw;exact⟨i+1,x.pu,rfl,Ar,K9,hG,fh (by rw[<-hN.out,HA.out,HS.out])⟩;exact gM
     ·have a1:(x.li == 0)=I:=Rm.2 h0
      have HS:Hid ((if x.li=0 then x.pu else s)=s):=fh (Ro h0);clear h0;go_wp2_with(fail);go_roundw;exact⟨i+1,s,rfl,Ar,K9,hG,fh (by rw[<-hN.out,HA.out,HS.out])⟩;exact gM
    ·obtain rfl:i=n+1:=K9
     have a2:¬ ((n:Int)+1<=(n:Int)):=K9;have a3:¬ (((n+1:Nat):Int)<=(n:Int)):=K9;have HE:Hid (s=pB p n):=fh (by rw[<-hN.out,St];cases p.drop (n+1) <;> rfl);go_wp2_with(fail);go_ret;exact⟨mP HE.out,hG.out⟩
  ·have HL:Hid (pB p k=Wy):=fh (EE (fun h=>hkl h.2))
   exact uW
 ·have HL:Hid (pB p k=Wy):=fh (EE (fun h=>hk0 h.1))
  exact uW
def qT (a b:Q Int)(n:Nat):Bool:=decide (n<=a.length) && (decide (n<=b.length) && decide (a.take n=b.take n))
theorem OB {x:Int} (h:a.take i=b.take i)(ha:a[i]?=D x)(hb:b[i]?=D x):a.take (i+1)=b.take (i+1):=by
 rw[R8,R8,ha,hb,h]
theorem OC {x y:Int} (ha:a[i]?=D x)(hb:b[i]?=D y)(hn:i<n)(h:x≠y):a.take n≠b.take n:=by
 intro he;have h1:=Ta (fun l=>l[i]?) he;simp only[Tc,hn,TI,ha,hb] at h1;injection h1 with h1
 exact h h1
theorem zxr {B:X RJ} (hx:(zr.sl 3).R w w.heap.size [G A a.length c] a)(hy:(zr.sl 3).R w w.heap.size [G B b.length d] b)(hn:n<=1000000) :
  RD prog 170 #[G A a.length c,G B b.length d,J Z n] w fun e w'=>e=.returned (H (qT a b n))/\fu w w':=by
 by_cases ha:n<=a.length
 ·have a2:¬ ((a.length:Int)<(n:Int)):=K9
  by_cases hb:n<=b.length
  ·have a3:¬ ((b.length:Int)<(n:Int)):=K9
   have HS:Hid (qT a b n=decide (a.take n=b.take n)):=fh (by unfold qT;simp[ha,hb]);go_enter func170,ntmps170;go_wp2_with(fail);go_loopw [7] (fun j wr=>∃ i:Nat,j=J Z i/\i<=n/\Hid (fu w wr)/\Hid (a.take i=b.take i)) (fun j _=>n-(RS j).toNat)
   case atStart=>exact⟨0,rfl,Rl _,fh gF,fh rfl⟩
   case round=>
    obtain⟨i,rfl,hi,hG,hT⟩:=hrel;by_cases hlt:i<n
    ·obtain⟨ga,oa,x,rfl,a0,xa,_⟩:=lJ hx (Ri hlt ha)
     obtain⟨gb,ob,y,rfl,a1,yb,_⟩:=lJ hy (Ri hlt hb);have a4:(i:Int)<(n:Int):=K9;have a6:(i:Int)<(a.length:Int):=K9;have a7:(i:Int)<(b.length:Int):=K9;have a8:Rg Z ((i:Int)+1)=(i:Int)+1:=iw;have xa:=za hG.out xa;have yb:=za hG.out yb;by_cases he:x=y
     ·have a5:(x != y)=I:=by simp[he]
      have HT:Hid (a.take (i+1)=b.take (i+1)):=fh (OB hT.out a0 (by rw[he];exact a1));clear he a0 a1;go_wp2_with(fail);go_quiet (fail);go_wp2_with(fail);go_roundw;exact⟨i+1,Ar,K9,fh (hG.out.trans gF),HT⟩;exact gM
     ·have a5:(x != y)=M:=by simp[he]
      have HT:Hid (qT a b n=I):=fh (by rw[HS.out,Rk (OC a0 a1 hlt he)]);clear he a0 a1;go_wp2_with(fail);go_quiet (fail);go_wp2_with(fail);go_ret;exact⟨zp HT.out.symm,hG.out.trans gF⟩
    ·obtain rfl:i=n:=K9
     have a4:¬ ((i:Int)<(i:Int)):=K9;have HT:Hid (qT a b i=M):=fh (by rw[HS.out,Rp hT.out]);go_wp2_with(fail);go_ret;exact⟨zp HT.out.symm,hG.out⟩
  ·have a3:(b.length:Int)<(n:Int):=K9
   have HS:Hid (qT a b n=I):=fh (by unfold qT;simp[hb]);go_enter func170,ntmps170;go_wp2_with(fail);go_ret;exact⟨zp HS.out.symm,gG⟩
 ·have a2:(a.length:Int)<(n:Int):=K9
  have HS:Hid (qT a b n=I):=fh (by unfold qT;simp[ha]);go_enter func170,ntmps170;go_wp2_with(fail);go_ret;exact⟨zp HS.out.symm,gG⟩
theorem Kk {x:fM} {y:Int} (h:x.fB[l+1]?=D y):kR p x l=pB p y:=by
 unfold kR;rw[Rs (Rd.1 h).1,Sf,h];rfl
theorem Kd {x:fM} (h:¬ l+1<x.fB.length):kR p x l=pB p x.fG:=Ro h
theorem zg6 {A5:X RJ} {c5:Nat} (hx:(zQ.sl 99).R w w.heap.size [G A p.length c] p)(hl:p.length<=1000000)(hc:(zr.sl 3).R w w.heap.size [G A5 x.lw.fB.length c5] x.lw.fB)(hll:l<=1000) :
  RD prog 169 #[G A p.length c,.agg #[J Z x.us,J Z x.lw.Op.Code,J Z x.lw.Op.Wv,J Z x.lw.fG,H x.lw.kw,G A5 x.lw.fB.length c5,J Z x.lw.fF,H x.lw.fD],J Z l] w fun e w'=>e=.returned (V (kR p x.lw l))/\fu w w':=by
 have a6:Rg Z ((l:Int)+1)=(l:Int)+1:=iw;by_cases h:l+1<x.lw.fB.length
 ·obtain⟨gc,oc,y,rfl,a2,yc,_⟩:=lJ hc h
  have a3:=R7 _ _ yc;simp only at a3;have a4:(x.lw.fB.length:Int) > (l:Int)+1:=K9;have a1:(l:Int)+1<(x.lw.fB.length:Int):=K9;have a5:((l:Int)+1).toNat=l+1:=K9;have HN:=fh (Kk (p:=p) a2);clear a2;go_enter func169,ntmps169;go_wp2_with(first | (go_at_call 22;(with_reducible refine(zlq (k:=y) (Ty.up _ hx gF) hl).mono ?_);rw[<-HN.out];rintro e w1 ⟨rfl,a0⟩));go_ret;exact⟨rfl,fu.trans (b:=_) gF a0⟩
 ·have a4:¬ ((x.lw.fB.length:Int) > (l:Int)+1):=K9
  have a1:¬ ((l:Int)+1<(x.lw.fB.length:Int)):=K9;have HN:=fh (Kd (p:=p) h);go_enter func169,ntmps169;go_wp2_with(first | (go_at_call 22;(with_reducible refine(zlq (k:=x.lw.fG) (Ty.up _ hx gF) hl).mono ?_);rw[<-HN.out];rintro e w1 ⟨rfl,a0⟩));go_ret;exact⟨rfl,fu.trans (b:=_) gF a0⟩
def pT (p:Q fw)(level:Nat)(l:Q fK):Q fQ:=nX p level l.length l
theorem J9 (p:Q fw)(level:Nat):∀(n:Nat)(l:Q fK),l.length<=n->nX p level n l=nX p level l.length l:=by
 intro n;induction n using Nat.strongRecOn with
 | ind n ih=>
  intro l hl;cases l with
  | nil=>cases n <;> rfl
  | cons x r=>
   obtain⟨n,rfl⟩:∃ m,n=m+1:=⟨n-1,by simp at hl;omega⟩
   simp only[RA] at hl;show nX p level (n+1) (x::r)=nX p level (r.length+1) (x::r);unfold nX;split
   ·simp only
    congr 1;have hd:(r.drop (r.takeWhile (pJ p level x.lw.fB (kR p x.lw level))).length).length<=r.length:=by rw[Tt];omega
    rw[ih n K9 _ K9];by_cases hr:r.length=n
    ·subst hr
     rw[ih _ K9 _ hd]
    ·rw[ih r.length K9 _ hd]
   ·rw[ih n K9 r K9]
def xA (p:Q fw)(level:Nat)(x y:fK):fQ:=⟨x.us,y.us+zS y.lw.Op.Code,level,x.lw.fB.getD level 0,kR p x.lw level⟩
theorem NW (hx:xs[k]?=D x)(h:¬ level<x.lw.fB.length):pT p level (xs.drop k)=pT p level (xs.drop (k+1)):=by
 obtain⟨h1,rfl⟩:=Rd.1 hx;unfold pT;rw[Rw h1,RA]
 conv=>lhs;unfold nX
 rw[Ro h]
def jK (f:fK->Bool)(xs:Q fK)(k j:Nat):Prop:=(xs.drop (k+1)).takeWhile f=(xs.drop (k+1)).take j++(xs.drop (k+1+j)).takeWhile f
theorem Mq (f:fK->Bool)(xs:Q fK)(k:Nat):jK f xs k 0:=by unfold jK;simp
theorem jK.next {f:fK->Bool} (h:jK f xs k j)(hy:xs[k+1+j]?=D y)(hf:f y=M):jK f xs k (j+1):=by
 unfold jK at h |-;obtain⟨h1,rfl⟩:=Rd.1 hy;rw[h,Rw h1,List.takeWhile_cons_of_pos hf,R8];have:(xs.drop (k+1))[j]?=D xs[k+1+j]:=by rw[TT];exact hy
 rw[this];simp[U5]
theorem jK.done (h:jK (pJ p level x.lw.fB (kR p x.lw level)) xs k j)(hx:xs[k]?=D x)(hl:level<x.lw.fB.length)(hy:xs[k+j]?=D y)
  (hend:∀ z,xs[k+1+j]?=D z->pJ p level x.lw.fB (kR p x.lw level) z=I):pT p level (xs.drop k)=xA p level x y::pT p level (xs.drop (k+1+j)):=by
 obtain⟨h1,rfl⟩:=Rd.1 hx;have a7:=(Rd.1 hy).1
 have a0:(xs.drop (k+1+j)).takeWhile (pJ p level xs[k].lw.fB (kR p xs[k].lw level)) = []:=by
  cases hz:xs[k+1+j]? with
  | none=>
   rw[Tw (SQ.1 hz)];rfl
  | some z=>
   have a6:=hend z hz;obtain⟨g1,rfl⟩:=Rd.1 hz;rw[Rw g1,List.takeWhile_cons_of_neg (by rw[a6];simp)]
 have a3:(xs.drop (k+1)).takeWhile (pJ p level xs[k].lw.fB (kR p xs[k].lw level))=(xs.drop (k+1)).take j:=by
  have:=h;unfold jK at this;rw[this,a0,Tl]
 have a5:((xs.drop (k+1)).take j).length=j:=by rw[SX,Tt];omega
 have a1:∀ a4:(xs[k]::(xs.drop (k+1)).take j)≠[],(xs[k]::(xs.drop (k+1)).take j).getLast a4=y:=by
  intro a4;rw[List.getLast_eq_getElem];have a8:(xs[k]::(xs.drop (k+1)).take j).length-1=j:=by rw[RA,a5];omega
  have a2:(xs[k]::(xs.drop (k+1)).take j)[j]?=D y:=by
   cases j with
   | zero=>
    rw[Sr,Rn h1] at hy;rw[RW];exact hy
   | succ j=>
    rw[Tg,Tc,Rs K9,TT,show k+1+j=k+(j+1) from K9];exact hy
  obtain⟨q1,q2⟩:=Rd.1 a2;rw[<-q2];congr 1
 unfold pT;rw[Rw h1,RA]
 conv=>lhs;unfold nX
 rw[Rs hl];simp only[a3,a5];rw[a1];show xA p level xs[k] y::_=_;congr 1;rw[Uf];rw[J9 p level _ _ (by simp only[Tt];omega)]
theorem Kf (h:∀ x∈p,x.pu.size<=Q4)(k:Int):(pB p k).size<=Q4:=by
 have a0:∀(l:Q fw) (n:Nat) (s:N),(∀ x∈l,x.pu.size<=Q4)->s.size<=Q4->(wu l n s).size<=Q4:=by
  intro l;induction l with
  | nil=>intro n s _ hs;cases n <;> exact hs
  | cons x r ih=>
   intro n s hl hs;cases n with
   | zero=>exact hs
   | succ n=>
    refine ih n _ (fun y hy=>hl y (.tail _ hy)) ?_;split
    ·exact hl x (.head _)
    ·exact hs
 unfold pB;split
 ·exact a0 _ _ _ h (Rl _)
 ·exact Rl _
theorem JE (h:∀ x∈p,x.pu.size<=Q4)(x:fM)(l:Nat):(kR p x l).size<=Q4:=by
 unfold kR;split <;> exact Kf h _
theorem OT (h:xs[k]?=D x)(m:Nat):(xs.drop k).foldl (fun n x=>max n x.lw.fB.length) m=(xs.drop (k+1)).foldl (fun n x=>max n x.lw.fB.length) (max m x.lw.fB.length):=GZ (f:=fun n (x:fK)=>max n x.lw.fB.length) h
theorem N4 (h:level<n):(Ui level (n-level)).flatMap (fun lv=>pT p lv xs)=pT p level xs++(Ui (level+1) (n-(level+1))).flatMap (fun lv=>pT p lv xs):=by
 rw[show n-level=n-(level+1)+1 from K9,List.range'_succ];rfl
theorem Kb (h1:zx p=M)(h2:qu xs=M):mh p xs=(Ui 0 (tB xs-0)).flatMap (fun lv=>pT p lv xs):=by
 unfold mh;rw[Rs ⟨h1,h2⟩,List.range_eq_range'];rfl
def O5 (xs:Q fQ)(w:U)(r:Ending)(w':U):Prop:=∃ A c S,r=.returned (G A xs.length c)/\Has (kE.sl 214) w' [G A xs.length c] xs S/\(∀ b∈S,w.heap.size<=b)/\fu w w'
theorem NF {io:Q Int} {name:N} (hl:level<io.length):pJ p level io name y=(qT io y.lw.fB (level+1) && decide (kR p y.lw level=name)):=by
 unfold pJ qT;by_cases h1:level<y.lw.fB.length
 ·have h2:level+1<=y.lw.fB.length:=h1
  have h3:level+1<=io.length:=hl;simp only[h1,h2,h3,decide_true,TP];by_cases h4:y.lw.fB.take (level+1)=io.take (level+1)
  ·simp[h4]
  ·have h5:¬ io.take (level+1)=y.lw.fB.take (level+1):=fun h=>h4 h.symm
   simp[h4,h5]
 ·have h2:¬ level+1<=y.lw.fB.length:=h1
  simp[h1,h2]
theorem JJ (c:Int)(w:U)(n:Nat):RD prog 167 #[J Z c] (w.drewN n) fun e w''=>e=.returned (J Z (zS c))/\∃ m,w''=w.drewN m:=CG (zga _ _)
theorem Ci (p:Q fw)(level:Nat):∀(n:Nat)(l:Q fK),(nX p level n l).length<=n
 | 0,_=>Ru _
 | n+1,[]=>Rl _
 | n+1,x::r=>by
  unfold nX;split
  ·simp only[RA]
   have:=Ci p level n (r.drop (r.takeWhile (pJ p level x.lw.fB (kR p x.lw level))).length);omega
  ·have:=Ci p level n r
   omega
theorem gj {α β:Type}{f:α->Q β}{Ra:Nat}(h:∀ a,(f a).length<=Ra):∀ l:Q α,(l.flatMap f).length<=l.length*Ra
 | []=>II
 | a::l=>by
  have h1:=h a;have h2:=gj h l;rw[List.flatMap_cons,Rh,RA,Vc];omega
theorem Dv {Q4:Nat}:∀(xs:Q fK)(m:Nat),m<=Q4->(∀ x∈xs,x.lw.fB.length<=Q4)->xs.foldl (fun n x=>max n x.lw.fB.length) m<=Q4
 | [],m,h,_=>h
 | x::r,m,h,hx=>Dv r _ (Nat.max_le.2 ⟨h,hx x (.head _)⟩) (fun y hy=>hx y (.tail _ hy))
theorem Ka (hl:xs.length<=100000)(hc:∀ x∈xs,x.lw.fB.length<=100):(mh p xs).length<=10000000:=by
 unfold mh;split
 ·have h1:=gj (f:=fun level=>nX p level xs.length xs) (Ra:=xs.length) (fun a=>Ci p a _ _) (List.range (tB xs))
  have h2:tB xs<=100:=Dv xs 0 K9 hc;rw[List.length_range] at h1;have h3:tB xs*xs.length<=100*100000:=U0 h2 hl;omega
 ·exact Rl _
theorem JO {cl:Int} {nm:N} (hc:x.lw.fB.getD level 0=cl)(hn:kR p x.lw level=nm)(h0:fE x.us)(h1:fE (y.us+zS y.lw.Op.Code))(h2:fE (level:Int))(h3:fE cl)(h4:(kR p x.lw level).size<=9223372036854775807) :
  kE.R w B [J Z x.us,J Z (y.us+zS y.lw.Op.Code),J Z level,J Z cl,V nm] (xA p level x y):=by
 subst hc;subst hn;exact Fv (x:=xA p level x y) h0 h1 h2 h3 h4
theorem WJ {g:Prop} (f:g:=by
  have HD:=fh (jK.done hRun.out HXK.out hlv HYJ.out HNO.out)
  have hlen9:acc.length+1<=100000000:=by
   have h:=Ta List.length hA.out
   rw[HD.out] at h
   simp only[Rh,RA] at h
   have h2:=HTL.out
   omega
  have hgwT:g<_:=Ri hgw (hG.out.trans HGT.out).size
  have hgcwT:gc<_:=Ri hgcw (hG.out.trans HGT.out).size
  go_upto_region 21 with(fail)
  go_quiet ((first | (go_at_call 167;with_reducible exact JJ _ _ _)))
  go_upto_region 22 with(fail)
  go_region_held3 (fun w'=>Rb w' ⟨g,off+k*8,C⟩=D (J Z x.us)/\Rb w' ⟨gc,oc+level,C⟩=D (J Z cl)) ((repeat' apply Rf) <;> ((repeat (first | with_reducible assumption | with_reducible refine zd ?_ _ _ | with_reducible refine zo ?_ _ | with_reducible refine zc ?_ | with_reducible refine mC ?_ _));done)) (first | (refine pY (L:=acc.length+1) rfl (.tmp 114) (.tmp 128) EA DW ((hH.out.fy HGT.out).fy gF) (W1:=w) (B:=0) (ec:=[J Z x.us,J Z (y.us+zS y.lw.Op.Code),J Z level,J Z cl,V nm]) (y:=xA p level x y) (JO HCL.out HNM.out b0 hyI ⟨K9,K9⟩ hclI (JE hnm _ _)) rfl rfl rfl (by intro j u hu;simpa[go_sem] using hu) rfl K9 K9 ?_;intro A8 c8 W8 S8 hon hH8 hS8;have x0:=(hon.cell (g:=g) (Ri hgwT (fu.size gF)) hgS _).trans (za gF x0);have cc:=(hon.cell (g:=gc) (Ri hgcwT (fu.size gF)) hgcS _).trans (za gF cc)))
  all_goals go_wp2_with(fail)
  all_goals go_roundw
  exact⟨q+1,acc++[xA p level x y],A8,c8,S8,by rw[Rh];rfl,Ar,K9,fh (hon.fy ((hG.out.trans HGT.out).trans gF) hS.out),fh (by rw[Rh];exact hH8),fh (fun b hb=>(hS8 b hb).elim (hS.out b) (fun h=>RG (fu.size ((hG.out.trans HGT.out).trans gF)) h)),fh (by rw[<-hA.out,HD.out,RU,show k+1+j=q+1 from by rw[HQJ.out];omega];rfl)⟩
  exact gM):g:=f
theorem zpk {B:X RJ} (hp:(zQ.sl 99).R w w.heap.size [G A p.length c] p)(hpl:p.length<=1000000)(hps:∀ x∈p,x.fL.length<=1099511627776/\x.Expr.length<=1099511627776)(hnm:∀ x∈p,x.pu.size<=9223372036854775807)
  (hx:(uc.sl 229).R w w.heap.size [G B xs.length d] xs) (hl:xs.length<=100000) (hch:∀ x∈xs,x.lw.fB.length<=100) :
  RD prog 128 #[G A p.length c,G B xs.length d] w (O5 (mh p xs) w):=by
 obtain⟨pb,aP⟩:∃ b,zx p=b:=⟨_,rfl⟩
 have ah:=fh aP;clear aP;have ab:p.length<=1099511627776:=K9;have aN:xs.length<=1000000:=K9;cases pb with
 | false=>
  have HE:Hid (mh p xs = []):=fh (by unfold mh;rw[Ro (by rw[ah.out];simp)]);go_enter func128,ntmps128;go_wp2_with(first | (go_at_call 102;(with_reducible refine(zaK (Ty.up _ hp gF) ab hps).mono ?_);rw[ah.out];rintro e w1 ⟨rfl,a8⟩));exact Rj (v:=G (D ⟨w.heap.size,0,C⟩) 0 0) (by simp[Rv,results128,go_sem]) rfl (by rw[HE.out];exact⟨_,0,[w.heap.size],rfl,Has.Wy kE (zj (Re w (F #[] 214)) (fu.trans (b:=_) gF a8)),fun b hb=>by simp only[Rc] at hb;omega,fu.trans (b:=_) gF a8⟩)
 | true=>
 obtain⟨nb,an⟩:∃ b,qu xs=b:=⟨_,rfl⟩
 have ag:=fh an;clear an;cases nb with
 | false=>
  have HE:Hid (mh p xs = []):=fh (by unfold mh;rw[Ro (by rw[ag.out];simp)]);go_enter func128,ntmps128;go_wp2_with(first | (go_at_call 102;(with_reducible refine(zaK (Ty.up _ hp gF) ab hps).mono ?_);rw[ah.out];rintro e w1 ⟨rfl,a8⟩) | (go_at_call 168;(with_reducible refine(zn4 (Ty.up _ hx (fu.trans (b:=_) gF a8)) aN).mono ?_);rw[ag.out];rintro e w2 ⟨rfl,am⟩));exact Rj (v:=G (D ⟨w.heap.size,0,C⟩) 0 0) (by simp[Rv,results128,go_sem]) rfl (by rw[HE.out];exact⟨_,0,[w.heap.size],rfl,Has.Wy kE (zj (Re w (F #[] 214)) (fu.trans (b:=_) gF (a8.trans am))),fun b hb=>by simp only[Rc] at hb;omega,fu.trans (b:=_) gF (a8.trans am)⟩)
 | true=>
 have HE:=fh (Kb ah.out ag.out);have HTL:=fh (Ka (p:=p) hl hch);obtain⟨QX,hD⟩:∃ QX,tB xs=QX:=⟨_,rfl⟩
 have bk:QX<=100:=by rw[<-hD];exact Dv xs 0 K9 hch
 have aD:=fh hD;clear hD;have aX:=fh hch;clear hch;go_enter func128,ntmps128;go_wp2_with(first | (go_at_call 102;(with_reducible refine(zaK (Ty.up _ hp gF) ab hps).mono ?_);rw[ah.out];rintro e w1 ⟨rfl,a8⟩) | (go_at_call 168;(with_reducible refine(zn4 (Ty.up _ hx (fu.trans (b:=_) gF a8)) aN).mono ?_);rw[ag.out];rintro e w2 ⟨rfl,am⟩));have HW:=fh (a8.trans am);go_loopw [6,7] (fun z6 z7 wr=>∃(k m:Nat),z6=J Z m/\z7=J Z k/\k<=xs.length/\m<=100/\Hid (fu w2 wr)/\Hid ((xs.drop k).foldl (fun n x=>max n x.lw.fB.length) m=QX)) (fun _ z7 _=>xs.length-(RS z7).toNat)
 case atStart=>exact⟨0,0,rfl,rfl,Rl _,Rl _,fh gF,aD⟩
 case round=>
 obtain⟨k,m,rfl,rfl,hk,hm,ai,hN⟩:=hrel;by_cases hlt:k<xs.length
 ·obtain⟨g,off,x,aT,b7,rfl,bl,ae,x0,x1,x2,x3,x4,x5,x6,x7,_⟩:=tx hx hlt
  have aM:(k:Int)<(xs.length:Int):=K9;have be:Rg Z ((k:Int)+1)=(k:Int)+1:=iw;have al:=aX.out x (Rt ae);have x5:=za ((fu.trans (b:=_) gF HW.out).trans ai.out) x5;have HA:=fh (OT ae m);clear ae;by_cases hmx:m<x.lw.fB.length
  ·have bc:(m:Int)<(x.lw.fB.length:Int):=K9
   have HM:Hid (max m x.lw.fB.length=x.lw.fB.length):=fh (Nat.max_eq_right K9);go_wp2_with(fail);go_roundw;exact⟨k+1,x.lw.fB.length,rfl,Ar,K9,al,ai,fh (by rw[<-hN.out,HA.out,HM.out])⟩;exact gM
  ·have bc:¬ ((m:Int)<(x.lw.fB.length:Int)):=K9
   have HM:Hid (max m x.lw.fB.length=m):=fh (Nat.max_eq_left K9);go_wp2_with(fail);go_roundw;exact⟨k+1,m,rfl,Ar,K9,hm,ai,fh (by rw[<-hN.out,HA.out,HM.out])⟩;exact gM
 obtain rfl:k=xs.length:=K9;have av:¬ ((xs.length:Int)<(xs.length:Int)):=K9;obtain rfl:m=QX:=by have h:=hN.out;rw[RL] at h;exact h
 have aK:fu w wr:=(fu.trans (b:=_) gF HW.out).trans ai.out;have aG:Has (kE.sl 214) wr [G (D ⟨w.heap.size,0,C⟩) 0 0] [] [w.heap.size]:=Has.Wy kE (zj (Re w (F #[] 214)) (HW.out.trans ai.out));have b4:=fh aG;have aZ:=fh aK;clear aG aK;go_wp2_with(fail);clear av;go_loopw [5,8] (fun z5 z8 wr=>∃(level:Nat) (acc:Q fQ) (A5:X RJ) (c5:Nat) (S:Q Nat),z5=G A5 acc.length c5/\z8=J Z level/\level<=m/\Hid (fu w wr)/\Hid (Has (kE.sl 214) wr [G A5 acc.length c5] acc S)/\Hid (∀ b∈S,w.heap.size<=b)/\Hid (acc++(Ui level (m-level)).flatMap (fun lv=>pT p lv xs)=mh p xs)) (fun _ z8 _=>m-(RS z8).toNat)
 case atStart=>exact⟨0,[],_,0,[w.heap.size],rfl,rfl,Rl _,aZ,b4,fh (fun b hb=>by simp only[Rc] at hb;omega),fh (by rw[HE.out,aD.out];rfl)⟩
 case round=>
 obtain⟨level,a7,ao,ar,S0,rfl,rfl,bn,aF,aH,aI,aE⟩:=hrel;by_cases hlt:level<m
 ·have bb:(level:Int)<(m:Int):=K9
  have bf:Rg Z ((level:Int)+1)=(level:Int)+1:=iw;obtain⟨a9,a4⟩:∃ R,(Ui (level+1) (m-(level+1))).flatMap (fun lv=>pT p lv xs)=R:=⟨_,rfl⟩
  have HR:=fh a4;have aW:Hid (a7++(pT p level (xs.drop 0)++a9)=mh p xs):=fh (by rw[<-aE.out,N4 hlt,a4];rfl);have a3:level<=1000:=K9;have aw:level+1<=1000000:=K9;clear a4;go_wp2_with(fail);go_loopw [5,9] (fun z5 z9 wr=>∃(k:Nat) (acc:Q fQ) (A5:X RJ) (c5:Nat) (S:Q Nat),z5=G A5 acc.length c5/\z9=J Z k/\k<=xs.length/\Hid (fu w wr)/\Hid (Has (kE.sl 214) wr [G A5 acc.length c5] acc S)/\Hid (∀ b∈S,w.heap.size<=b)/\Hid (acc++(pT p level (xs.drop k)++a9)=mh p xs)) (fun _ z9 _=>xs.length-(RS z9).toNat)
  case atStart=>exact⟨0,a7,ao,ar,S0,rfl,rfl,Rl _,aF,aH,aI,aW⟩
  case round=>
  obtain⟨k,acc,A5,c5,S,rfl,rfl,hk,hG,hH,hS,hA⟩:=hrel;by_cases hlt:k<xs.length
  ·obtain⟨g,off,x,aT,b7,rfl,hgw,ae,x0,x1,x2,x3,x4,x5,x6,x7,b0,b1,b2,b3,h5,b6⟩:=tx hx hlt
   have aM:(k:Int)<(xs.length:Int):=K9;have be:Rg Z ((k:Int)+1)=(k:Int)+1:=iw;have x0:=za hG.out x0;have x1:=za hG.out x1;have x2:=za hG.out x2;have x3:=za hG.out x3;have x4:=za hG.out x4;have x5:=za hG.out x5;have x6:=za hG.out x6;have x7:=za hG.out x7;have HXK:=fh ae;clear ae;by_cases hlv:level<x.lw.fB.length
   ·have ax:¬ ((x.lw.fB.length:Int)<=(level:Int)):=K9
    have aO:(level:Int)<(x.lw.fB.length:Int):=K9;obtain⟨gc,oc,cl,au,al,cc,hclI⟩:=lJ h5 hlv;have hgcw:=R7 _ _ cc;simp only at hgcw;have cc:=za hG.out cc;have HCL:Hid (x.lw.fB.getD level 0=cl):=fh (by rw[Sf,al];rfl);have hgS:g∉S:=fun hm=>by have h:=hS.out g hm;omega
    have hgcS:gc∉S:=fun hm=>by have h:=hS.out gc hm;omega
    have az:=Ty.up _ h5 hG.out;obtain⟨nm,ak⟩:∃ s,kR p x.lw level=s:=⟨_,rfl⟩
    have HNM:=fh ak;subst au;have b9:=fh hH.out;clear al ak;go_wp2_with(first | (go_at_call 169;(with_reducible refine(zg6 (x:=x) (Ty.up _ hp (hG.out.trans gF)) hpl (Ty.up _ az gF) a3).mono ?_);rintro e w5 ⟨rfl,aJ⟩));have aj:fu wr w5:=fu.trans (b:=_) gF aJ;have af:=fh aj;obtain⟨wq,aR⟩:∃ q,wr=q:=⟨_,rfl⟩
    rw[aR] at hG hH af x0 x1 x2 x3 x4 x5 x6 x7 cc az b9;clear aj aJ aR;rw[HNM.out];go_loopw [11] (fun z11 wr=>∃ q j:Nat,z11=J Z q/\q<xs.length/\k<=q/\Hid (q=k+j)/\Hid (fu wq wr)/\Hid (jK (pJ p level x.lw.fB (kR p x.lw level)) xs k j)) (fun z11 _=>xs.length-(RS z11).toNat)
    case atStart=>exact⟨k,0,rfl,hlt,Ru _,fh rfl,af,fh (Mq _ _ _)⟩
    case round=>
     obtain⟨q,j,rfl,bd,bm,HQJ,a2,hRun⟩:=hrel;obtain⟨g',ac,y,bi,bj,aa,_,aB,y0,y1,_,_,_,_,_,_,bt,_⟩:=tx hx bd;injection aa with aa
     injection aa with hBB1 hBB2
     obtain rfl:g=g':=hBB1;obtain rfl:off=ac:=hBB2;have bp:(q:Int)<(xs.length:Int):=K9;have bg:Rg Z ((q:Int)+1)=(q:Int)+1:=iw;have a1:=hG.out.trans a2.out;have y0:=za a1 y0;have y1:=za a1 y1;have x0:=za a2.out x0;have cc:=za a2.out cc;have aA:=Ty.up _ az a2.out;have ba:g<wr.heap.size:=by have:=a1.size;omega
     have aL:gc<wr.heap.size:=by have:=a1.size;omega
     have HYJ:Hid (xs[k+j]?=D y):=fh (by rw[<-HQJ.out];exact aB);have bs:=GB ag.out aB;have bo:=AN y.lw.Op.Code;have hyI:fE (y.us+zS y.lw.Op.Code):=⟨K9,K9⟩
     have br:Rg Z (y.us+zS y.lw.Op.Code)=y.us+zS y.lw.Op.Code:=iw;clear aB;by_cases hqn:q+1<xs.length
     ·obtain⟨g',ac,z,aU,b8,aa,_,aS,z0,z1,z2,z3,z4,z5,z6,z7,_,_,_,_,bh,_⟩:=tx hx hqn
      injection aa with aa
      injection aa with hBB1 hBB2
      obtain rfl:g=g':=hBB1;obtain rfl:off=ac:=hBB2;have ay:(q:Int)+1<(xs.length:Int):=K9;have bq:((q:Int)+1).toNat=q+1:=K9;have z0:=za a1 z0;have z1:=za a1 z1;have z2:=za a1 z2;have z3:=za a1 z3;have z4:=za a1 z4;have z5:=za a1 z5;have z6:=za a1 z6;have z7:=za a1 z7;have aC:=Ty.up _ bh a1;have aq:Hid (xs[k+1+j]?=D z):=fh (by rw[show k+1+j=k+j+1 from K9,<-HQJ.out];exact aS);clear aS;obtain⟨sb,aQ⟩:∃ b,qT x.lw.fB z.lw.fB (level+1)=b:=⟨_,rfl⟩
      have ad:=fh aQ;clear aQ;have ap:=fh (NF (p:=p) (name:=kR p x.lw level) (y:=z) hlv);have a6:=zxr (n:=level+1) (Ty.up _ aA (fu.refl _)) aC aw;rw[show ((level+1:Nat):Int)=(level:Int)+1 from rfl] at a6;cases sb with
      | true=>
       by_cases hnz:kR p z.lw level=nm
       ·have an:((kR p z.lw level).toList == nm.toList)=M:=by rw[lC];simpa using hnz
        have aY:=fh (hRun.out.next aq.out (by rw[ap.out,ad.out,HNM.out,hnz];simp));clear hnz;go_wp2_with(first | (go_at_call 170;(with_reducible refine a6.mono ?_);rw[ad.out];rintro e v1 ⟨rfl,a0⟩;have z0:=za a0 z0;have z1:=za a0 z1;have z2:=za a0 z2;have z3:=za a0 z3;have z4:=za a0 z4;have z5:=za a0 z5;have z6:=za a0 z6;have z7:=za a0 z7;have y0:=za a0 y0;have y1:=za a0 y1;have x0:=za a0 x0;have cc:=za a0 cc) | (go_at_call 169;(with_reducible refine(zg6 (x:=z) (Ty.up _ hp (a1.trans (a0.trans gF))) hpl (Ty.up _ aC (a0.trans gF)) a3).mono ?_);rintro e v2 ⟨rfl,a5⟩;have y0:=za a5 y0;have y1:=za a5 y1;have x0:=za a5 x0;have cc:=za a5 cc));go_roundw;exact⟨q+1,j+1,Ar,hqn,K9,fh (by rw[HQJ.out];omega),fh ((a2.out.trans a0).trans a5),aY⟩;exact gM
       ·have an:((kR p z.lw level).toList == nm.toList)=I:=by rw[lC];simpa using hnz
        have HNO:=fh (show ∀ u,xs[k+1+j]?=D u->pJ p level x.lw.fB (kR p x.lw level) u=I from fun u hu=>by rw[aq.out] at hu;injection hu with hu;rw[<-hu,ap.out,ad.out,HNM.out];simpa using hnz);clear hnz;go_wp2_with(first | (go_at_call 170;(with_reducible refine a6.mono ?_);rw[ad.out];rintro e v1 ⟨rfl,a0⟩;have z0:=za a0 z0;have z1:=za a0 z1;have z2:=za a0 z2;have z3:=za a0 z3;have z4:=za a0 z4;have z5:=za a0 z5;have z6:=za a0 z6;have z7:=za a0 z7;have y0:=za a0 y0;have y1:=za a0 y1;have x0:=za a0 x0;have cc:=za a0 cc) | (go_at_call 169;(with_reducible refine(zg6 (x:=z) (Ty.up _ hp (a1.trans (a0.trans gF))) hpl (Ty.up _ aC (a0.trans gF)) a3).mono ?_);rintro e v2 ⟨rfl,a5⟩;have y0:=za a5 y0;have y1:=za a5 y1;have x0:=za a5 x0;have cc:=za a5 cc));have HGT:=fh (a2.out.trans (a0.trans a5));exact WJ
      | false=>
       have HNO:=fh (show ∀ u,xs[k+1+j]?=D u->pJ p level x.lw.fB (kR p x.lw level) u=I from fun u hu=>by rw[aq.out] at hu;injection hu with hu;rw[<-hu,ap.out,ad.out];rfl);go_wp2_with(first | (go_at_call 170;(with_reducible refine a6.mono ?_);rw[ad.out];rintro e v1 ⟨rfl,a0⟩;have z0:=za a0 z0;have z1:=za a0 z1;have z2:=za a0 z2;have z3:=za a0 z3;have z4:=za a0 z4;have z5:=za a0 z5;have z6:=za a0 z6;have z7:=za a0 z7;have y0:=za a0 y0;have y1:=za a0 y1;have x0:=za a0 x0;have cc:=za a0 cc));have HGT:=fh (a2.out.trans a0);exact WJ
     ·have ay:¬ ((q:Int)+1<(xs.length:Int)):=K9
      have HNO:=fh (show ∀ u,xs[k+1+j]?=D u->pJ p level x.lw.fB (kR p x.lw level) u=I from fun u hu=>by have h1:=(Rd.1 hu).1;have h2:=HQJ.out;omega);go_wp2_with(fail);have HGT:=fh (a2.out);exact WJ
   ·have ax:(x.lw.fB.length:Int)<=(level:Int):=K9
    have b5:=fh (NW (p:=p) HXK.out hlv);go_wp2_with(fail);go_roundw;exact⟨k+1,acc,A5,c5,S,rfl,Ar,K9,hG,hH,hS,fh (by rw[<-hA.out,b5.out])⟩;exact gM
  ·obtain rfl:k=xs.length:=K9
   have aM:¬ ((xs.length:Int)<(xs.length:Int)):=K9;have aV:Hid (acc++a9=mh p xs):=fh (by rw[<-hA.out,RL];rfl);go_wp2_with(fail);go_roundw;exact⟨level+1,acc,A5,c5,S,rfl,Ar,K9,hG,hH,hS,fh (by rw[HR.out];exact aV.out)⟩;exact gM
 ·obtain rfl:level=m:=K9
  have bb:¬ ((level:Int)<(level:Int)):=K9;have HQ:Hid (a7=mh p xs):=fh (by rw[<-aE.out,St];simp);go_wp2_with(fail);exact Rj (v:=G ao a7.length ar) (by simp[Rv,results128,go_sem]) rfl (by rw[<-HQ.out];exact⟨ao,ar,S0,rfl,aH.out,aI.out,aF.out⟩)
end Go.Proofs.YthgbglbaemelhaaGreat
