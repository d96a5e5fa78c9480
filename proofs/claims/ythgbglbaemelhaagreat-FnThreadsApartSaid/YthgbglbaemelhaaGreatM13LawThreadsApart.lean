/-
  PART.
-/
import Derived.Test.YthgbglbaemelhaaGreatM12LawThreadsApart
set_option linter.unusedVariables false
set_option linter.unusedSimpArgs false
set_option maxRecDepth 100000
set_option maxHeartbeats 8000000
namespace Go.Proofs.YthgbglbaemelhaaGreat
open Value renaming slice->G,int->J,bool->H,string->V
open IntKind renaming i64->Z,wrap->Rg
open Option renaming none->C,some->D
open Obj renaming cells->F
open Bool renaming false->I,true->M
open Go renaming World->U,results->Rv,Calls->RD,Addr->RJ
open _root_.Int renaming toNat_natCast->Ry
open RowKit renaming intOf->RS
open List renaming nil_append->RY,range'->Ui
open _root_.Nat renaming add_zero->Sr
open Tryz
open Go.RowKit
variable {A:X RJ}{L:Q N}{W w:U}{c e i k n:Nat}{p xs:Q fw}{s:N}{x:fw}
theorem Cz (h:xs[i]?=D x)(s:N)(j:Nat):oB (xs.drop i) s j=if x.li=0/\x.pu=s then (j:Int) else oB (xs.drop (i+1)) s (j+1):=by
 obtain⟨h1,rfl⟩:=Rd.1 h;rw[Rw h1];rfl
theorem Gw (h:xs[i]?=D x)(j:Nat):lu (xs.drop i) j=if x.li=0 then (j:Int)::lu (xs.drop (i+1)) (j+1) else lu (xs.drop (i+1)) (j+1):=by
 obtain⟨h1,rfl⟩:=Rd.1 h;rw[Rw h1];rfl
theorem Xk {g:Prop} (f:g:=by
  clear h
  go_wp2_with(first | (go_at_call 160;(with_reducible refine(zbo (Ty.up _ hx (hG.out.trans gF)) hl).mono ?_);rw[HE2.out];rintro e2 v2 ⟨rfl,hg2⟩))
  go_roundw
  exact⟨e'+1,n-1,Ar,K9,K9,K9,fh (hG.out.trans (fu.trans (b:=_) gF (hg2.trans gF))),HF⟩
  exact gM):g:=f
theorem zgW {k:Int} (hx:(zQ.sl 99).R w w.heap.size [G A xs.length c] xs)(hl:xs.length<=1099511627776) :
  RD prog 192 #[G A xs.length c,J Z k] w fun e w'=>e=.returned (J Z (kh xs k))/\fu w w':=by
 rcases wB xs k with he | ⟨a,e,rfl,he,a0⟩
 ·have HE:=fh he
  have HF:Hid (kh xs k = -1):=fh (by unfold kh;rw[Rs K9]);clear he;go_enter func192,ntmps192;go_wp2_with(first | (go_at_call 160;(with_reducible refine(zbo hx hl).mono ?_);rw[HE.out];rintro e1 v1 ⟨rfl,a3⟩))
  all_goals exact Rj (v:=J Z (-1)) (by simp[Rv,results192,go_sem]) rfl ⟨by rw[HF.out],a3.trans gF⟩
 have HE:=fh he;have ae:=a0.len;have ao:=a0.lt;obtain⟨g,ay,y,ag,ak,ah,al,rfl,av,a5,y0,_,_,_,b0,_,_,_⟩:=lS hx (show a<xs.length from K9);have ap:(a:Int)<(xs.length:Int):=K9;have au:¬ ((e:Int)<0):=K9;have aw:Rg Z ((a:Int)+1)=(a:Int)+1:=iw;by_cases h3:y.li=3
 rotate_left
 ·have HF:Hid (kh xs a = -1):=fh (by
   unfold kh;rw[he,Ro K9,Ry,a5];simp only
   rw[Ro h3])
  have aa:(y.li != 3)=M:=by rw[oy,Rk h3];rfl
  clear he a5 h3;go_enter func192,ntmps192;go_wp2_with(first | (go_at_call 160;(with_reducible refine(zbo hx hl).mono ?_);rw[HE.out];rintro e1 v1 ⟨rfl,a3⟩;have u0:=za a3 y0))
  all_goals exact Rj (v:=J Z (-1)) (by simp[Rv,results192,go_sem]) rfl ⟨by rw[HF.out],a3.trans gF⟩
 have HS:Hid (oY xs xs.length (a+1) e=kh xs a):=fh (by
  unfold kh;rw[he,Ro K9,Ry,a5];simp only
  rw[Rs h3])
 have aa:(y.li != 3)=I:=by rw[oy,Rp h3];rfl
 clear he a5 h3;go_enter func192,ntmps192;go_wp2_with(first | (go_at_call 160;(with_reducible refine(zbo hx hl).mono ?_);rw[HE.out];rintro e1 v1 ⟨rfl,a3⟩;have u0:=za a3 y0));go_loopw [6] (fun j wr=>∃(i n:Nat),j=J Z i/\a<i/\i<=e/\e-i<n/\Hid (fu w wr)/\Hid (oY xs n i e=kh xs a)) (fun j _=>e-(RS j).toNat)
 case atStart=>exact⟨a+1,xs.length,Ar,K9,K9,K9,fh (a3.trans gF),HS⟩
 case round=>
  obtain⟨i,n,rfl,a2,a8,hn,hG,hE⟩:=hrel;by_cases hlt:i<e
  ·obtain⟨g2,af,x,ai,am,aj,an,a6,_,a4,x0,_,_,_,_,_,_,_⟩:=lS hx (show i<xs.length from K9)
   injection a6 with a6
   injection a6 with e1 e2
   subst e1 e2;have a9:(i:Int)<(e:Int):=K9;have ab:(i:Int)<(xs.length:Int):=K9;have vx:=za hG.out x0;have a1:=CQ a0 n i a2 a8 hn;rw[Rs a9,a4] at a1;simp only at a1;by_cases h35:x.li=3∨x.li=5
   ·rw[Rs h35] at a1
    obtain⟨e',a7,ac,ad⟩:=a0.inner a2 hlt a4 (by rcases h35 with h | h <;> rw[h] <;> decide);have HE2:=fh a7.iV;have HF:Hid (oY xs (n-1) (e'+1) e=kh xs a):=fh (by rw[<-hE.out,a1,HE2.out,Ry]);have ax:Rg Z ((e':Int)+1)=(e':Int)+1:=iw;have aq:(e':Int)≥0:=K9;have ar:(0:Int)≥0:=K9;clear a1 a4 x0;rcases h35 with h | h
    ·have q4:(x.li == 4)=I:=Rm.2 (by rw[h];decide)
     have q3:(x.li == 3)=M:=RQ.2 h;exact Xk
    ·have q4:(x.li == 4)=I:=Rm.2 (by rw[h];decide)
     have q3:(x.li == 3)=I:=Rm.2 (by rw[h];decide);have q5:(x.li == 5)=M:=RQ.2 h;exact Xk
   ·rw[Ro h35] at a1
    have q3:(x.li == 3)=I:=Rm.2 (fun h=>h35 (.inl h));have q5:(x.li == 5)=I:=Rm.2 (fun h=>h35 (.inr h));by_cases h4:x.li=4
    ·rw[Rs h4] at a1
     have HF:Hid (kh xs a=(i:Int)):=fh (by rw[<-hE.out,a1]);have q4:(x.li == 4)=M:=RQ.2 h4;clear a1 a4 x0 h4 h35;go_wp2_with(fail);exact Rj (v:=J Z (i:Int)) (by simp[Rv,results192,go_sem]) rfl ⟨by rw[HF.out],hG.out.trans gF⟩
    ·rw[Ro h4] at a1
     have HF:Hid (oY xs (n-1) (i+1) e=kh xs a):=fh (by rw[<-hE.out,a1]);have q4:(x.li == 4)=I:=Rm.2 h4;clear a1 a4 x0 h4 h35;go_wp2_with(fail);go_roundw;exact⟨i+1,n-1,Ar,K9,K9,K9,fh (hG.out.trans gF),HF⟩;exact gM
  ·obtain rfl:i=e:=K9
   have a9:¬ ((i:Int)<(i:Int)):=K9;have HF:Hid (kh xs a = -1):=fh (by rw[<-hE.out,CQ a0 n i a2 a8 hn,Ro K9]);go_wp2_with(fail);exact Rj (v:=J Z (-1)) (by simp[Rv,results192,go_sem]) rfl ⟨by rw[HF.out],hG.out.trans gF⟩
theorem zc8 (hx:(zQ.sl 99).R w w.heap.size [G A xs.length c] xs)(hl:xs.length<=1099511627776) :
  RD prog 159 #[G A xs.length c,V s] w fun e w'=>e=.returned (J Z (kz xs s))/\fu w w':=by
 go_enter func159,ntmps159;go_wp2_with(fail);go_loopw [5] (fun j wr=>∃(i:Nat),j=J Z i/\i<=xs.length/\Hid (fu w wr)/\Hid (oB (xs.drop i) s i=kz xs s)) (fun j _=>xs.length-(RS j).toNat)
 case atStart=>exact⟨0,rfl,Rl _,fh gF,fh rfl⟩
 case round=>
  obtain⟨i,rfl,hi,hG,hE⟩:=hrel;by_cases hlt:i<xs.length
  ·obtain⟨g,a8,x,a3,a5,a4,a6,rfl,a7,a0,x0,x1,x2,x3,b0,b1,_,_⟩:=lS hx hlt
   have a1:(i:Int)<(xs.length:Int):=K9;have v0:=za hG.out x0;have v1:=za hG.out x1;have v2:=za hG.out x2;have v3:=za hG.out x3;have HX:=fh a0;clear a0 x0 x1 x2 x3;by_cases h0:x.li=0
   ·have q0:(x.li == 0)=M:=RQ.2 h0
    by_cases hs:x.pu=s
    ·have HF:Hid (kz xs s=(i:Int)):=fh (by rw[<-hE.out,Cz HX.out,Rs ⟨h0,hs⟩])
     have a2:(x.pu.toList == s.toList)=M:=by rw[lC];simp[hs]
     clear h0 hs;go_wp2_with(fail);exact Rj (v:=J Z (i:Int)) (by simp[Rv,results159,go_sem]) rfl ⟨by rw[HF.out],hG.out.trans gF⟩
    ·have a2:(x.pu.toList == s.toList)=I:=by rw[lC];simp[hs]
     have HF:Hid (oB (xs.drop (i+1)) s (i+1)=kz xs s):=fh (by rw[<-hE.out,Cz HX.out,Ro (fun h=>hs h.2)]);clear h0 hs;go_wp2_with(fail);go_roundw;exact⟨i+1,Ar,K9,fh (hG.out.trans gF),HF⟩;exact gM
   ·have q0:(x.li == 0)=I:=Rm.2 h0
    have HF:Hid (oB (xs.drop (i+1)) s (i+1)=kz xs s):=fh (by rw[<-hE.out,Cz HX.out,Ro (fun h=>h0 h.1)]);clear h0;go_wp2_with(fail);go_roundw;exact⟨i+1,Ar,K9,fh (hG.out.trans gF),HF⟩;exact gM
  ·obtain rfl:i=xs.length:=K9
   have a1:¬ ((xs.length:Int)<(xs.length:Int)):=K9;have HF:Hid (kz xs s = -1):=fh (by rw[<-hE.out,RL];rfl);go_wp2_with(fail);exact Rj (v:=J Z (-1)) (by simp[Rv,results159,go_sem]) rfl ⟨by rw[HF.out],hG.out.trans gF⟩
theorem zbI (hx:(zQ.sl 99).R w w.heap.size [G A xs.length c] xs)(hl:xs.length<=1099511627776) :
  RD prog 106 #[G A xs.length c] w (kM (zq xs) w):=by
 go_enter func106,ntmps106;go_wp2_with(fail);go_loopw [3,4] (fun z j wr=>∃(i:Nat) (A5:X RJ) (n5 c5:Nat) (S:Q Nat) (a0:Q Int),z=G A5 a0.length c5/\j=J Z i/\i<=xs.length/\a0.length<=i/\Hid (fu w wr)/\Hid (Has (zr.sl 3) wr [G A5 a0.length c5] a0 S)/\Hid (∀ b∈S,w.heap.size<=b)/\Hid (a0++lu (xs.drop i) i=zq xs)) (fun _ j _=>xs.length-(RS j).toNat)
 case atStart=>exact⟨0,_,0,0,[w.heap.size],[],rfl,rfl,Rl _,Rl _,fh gF,fh (Has.Wy zr (zj (Re _ _) gF)),fh (fun b hb=>by simp only[Rc] at hb;omega),fh rfl⟩
 case round=>
  obtain⟨i,A5,n5,c5,S,a0,rfl,rfl,hi,a4,hG,hH,hS,hE⟩:=hrel;by_cases hlt:i<xs.length
  ·obtain⟨g,ad,x,a7,a9,a8,aa,rfl,ab,a1,x0,x1,x2,x3,b0,b1,_,_⟩:=lS hx hlt
   have a5:(i:Int)<(xs.length:Int):=K9;have v0:=za hG.out x0;have v1:=za hG.out x1;have v2:=za hG.out x2;have v3:=za hG.out x3;have HX:=fh a1;clear a1 x0 x1 x2 x3;by_cases h0:x.li=0
   ·have q0:(x.li == 0)=M:=RQ.2 h0
    have HF:Hid (a0++[(i:Int)]++lu (xs.drop (i+1)) (i+1)=zq xs):=fh (by rw[<-hE.out,Gw HX.out,Rs h0];simp);clear h0;go_wp2_with(first | (refine zD (W1:=w) (L:=a0.length+1) rfl (.tmp 18) (.tmp 20) lN zE (S:=S) (hH.out.fy gF) (ec:=[J Z (i:Int)]) (y:=(i:Int)) (B:=0) ⟨rfl,K9,K9⟩ rfl rfl rfl (by intro j u hu;simpa[go_sem] using hu) rfl K9 K9 ?_;intro A8 c8 W8 S8 a6 a2 a3));go_roundw
    case measure=>exact gM
    case rel=>
     have ac:=hG.out.size;refine⟨i+1,A8,0,c8,S8,a0++[(i:Int)],II,Ar,K9,by simp;omega,fh (a6.fy (hG.out.trans gF) hS.out),fh (by rw[Rh];exact a2),fh (fun b hb=>?_),HF⟩;rcases a3 b hb with h | h
     ·exact hS.out b h
     ·(try simp at h);omega
   ·have q0:(x.li == 0)=I:=Rm.2 h0
    have HF:Hid (a0++lu (xs.drop (i+1)) (i+1)=zq xs):=fh (by rw[<-hE.out,Gw HX.out,Ro h0]);clear h0;go_wp2_with(fail);go_roundw;exact⟨i+1,A5,0,c5,S,a0,rfl,Ar,K9,K9,fh (hG.out.trans gF),fh (hH.out.fy gF),hS,HF⟩;exact gM
  ·obtain rfl:i=xs.length:=K9
   have a5:¬ ((xs.length:Int)<(xs.length:Int)):=K9;have HF:Hid (a0=zq xs):=fh (by have h:=hE.out;rw[RL,lu,Tl] at h;exact h);go_wp2_with(fail);refine Rj (v:=G A5 a0.length c5) (by simp[Rv,results106,go_sem]) rfl ?_;rw[<-HF.out];exact⟨A5,c5,S,rfl,hH.out,hS.out,hG.out⟩
def O8 (xs:Q N)(w:U)(r:Ending)(w':U):Prop:=∃ A c S,r=.returned (G A xs.length c)/\Has (iI.sl 9) w' [G A xs.length c] xs S/\(∀ b∈S,w.heap.size<=b)/\fu w w'
theorem BX (h:xs[i]?=D x)(hl:i<e)(acc:Q N):oR (xs.drop i) (e-i) acc=oR (xs.drop (i+1)) (e-(i+1)) (rz acc x):=by
 obtain⟨h1,rfl⟩:=Rd.1 h;rw[Rw h1,show e-i=(e-(i+1))+1 from K9];rfl
theorem zii {k:Int} (hx:(zQ.sl 99).R w w.heap.size [G A xs.length c] xs)(hl:xs.length<=1099511627776)(hs:∀ x∈xs,x.fL.length<=1099511627776/\x.Expr.length<=1099511627776) :
  RD prog 191 #[G A xs.length c,J Z k] w (O8 (zv xs k) w):=by
 rcases wB xs k with he | ⟨a,e,rfl,he,a2⟩
 ·have HE:=fh he
  have HF:Hid (zv xs k = []):=fh (by unfold zv;rw[Rs K9]);clear he;go_enter func191,ntmps191;go_wp2_with(first | (go_at_call 160;(with_reducible refine(zbo hx hl).mono ?_);rw[HE.out];rintro e1 v1 ⟨rfl,a1⟩))
  all_goals (refine Rj (v:=G (D ⟨v1.heap.size,0,C⟩) 0 0) (by simp[Rv,results191,go_sem]) rfl ?_;exact⟨D ⟨v1.heap.size,0,C⟩,0,[v1.heap.size],by rw[HF.out];rfl,by rw[HF.out];exact Has.Wy iI (Re _ _),fun b hb=>(by simp only[Rc] at hb;subst hb;exact a1.size),a1.trans gF⟩)
 have HE:=fh he;have al:=a2.len;have az:=a2.lt;obtain⟨g,aF,y,ap,av,aq,aw,rfl,a8,a4,y0,y1,y2,y3,b0,_,h2,_⟩:=lS hx (show a<xs.length from K9);have aA:(a:Int)<(xs.length:Int):=K9;have aB:¬ ((e:Int)<0):=K9;have hy:=(hs y (Rt a4)).1;by_cases h0:y.li=0
 rotate_left
 ·have HF:Hid (zv xs a = []):=fh (by
   unfold zv;rw[he,Ro K9,Ry,a4];simp only
   rw[Ro h0])
  have aa:(y.li != 0)=M:=by rw[oy,Rk h0];rfl
  clear he a4 h0;go_enter func191,ntmps191;go_wp2_with(first | (go_at_call 160;(with_reducible refine(zbo hx hl).mono ?_);rw[HE.out];rintro e1 v1 ⟨rfl,a1⟩;have u0:=za a1 y0;have u2:=za a1 y2;have ah:=Ri a8 a1.size))
  all_goals (refine Rj (v:=G (D ⟨v1.heap.size,0,C⟩) 0 0) (by simp[Rv,results191,go_sem]) rfl ?_;exact⟨D ⟨v1.heap.size,0,C⟩,0,[v1.heap.size],by rw[HF.out];rfl,by rw[HF.out];exact Has.Wy iI (Re _ _),fun b hb=>(by simp only[Rc] at hb;subst hb;exact a1.size),a1.trans gF⟩)
 have HS:Hid (oR (xs.drop a) (e-a) y.fL=zv xs a):=fh (by
  unfold zv;rw[he,Ro K9,Ry,Ry,a4];simp only
  rw[Rs h0])
 have aa:(y.li != 0)=I:=by rw[oy,Rp h0];rfl
 clear he a4 h0;go_enter func191,ntmps191;go_wp2_with(first | (go_at_call 160;(with_reducible refine(zbo hx hl).mono ?_);rw[HE.out];rintro e1 v1 ⟨rfl,a1⟩;have u0:=za a1 y0;have u2:=za a1 y2;have ah:=Ri a8 a1.size) | (at_builtin;refine wV (L:=y.fL.length) rfl (.tmp 22) (.tmp 27) tG lA (S:=[v1.heap.size]) (Has.Wy iI (Re _ _)) (Ty.up _ h2 (a1.trans gF)) rfl rfl rfl (RF _).symm K9 K9 ?_;intro A7 c7 W7 S7 a6 a7 ac));rw[RY] at a7;have aD:=a1.size;have ag:fu w W7:=a6.fy (a1.trans gF) (fun b hb=>by simp at hb;omega);go_loopw [6,7] (fun z j wr=>∃(i:Nat) (A5:X RJ) (c5:Nat) (S:Q Nat) (a0:Q N),z=G A5 a0.length c5/\j=J Z i/\a<=i/\i<=e/\a0.length<=y.fL.length+(i-a)/\Hid (fu w wr)/\Hid (Has (iI.sl 9) wr [G A5 a0.length c5] a0 S)/\Hid (∀ b∈S,w.heap.size<=b)/\Hid (oR (xs.drop i) (e-i) a0=zv xs a)) (fun _ j _=>e-(RS j).toNat)
 case atStart=>exact⟨a,A7,c7,S7,y.fL,rfl,rfl,Ru _,K9,K9,fh (ag.trans gF),fh (a7.fy gF),fh (fun b hb=>by rcases ac b hb with h | h;(simp at h;omega);(simp at h;omega)),HS⟩
 case round=>
  obtain⟨i,A5,c5,S,a0,rfl,rfl,af,aC,ae,hG,hH,hS,hE⟩:=hrel;by_cases hlt:i<e
  ·obtain⟨g2,ao,x,ar,ax,au,ay,a5,_,a9,x0,x1,_,_,_,b1,_,_⟩:=lS hx (show i<xs.length from K9)
   injection a5 with a5
   injection a5 with e1 e2
   subst e1 e2;have aj:(i:Int)<(e:Int):=K9;have ai:(i:Int)<(xs.length:Int):=K9;have v0:=za hG.out x0;have v1:=za hG.out x1;have HX:=fh a9;clear a9 x0 x1;by_cases h1:x.li=1
   ·have q1:(x.li == 1)=M:=RQ.2 h1
    rcases RX (jG a0 x.pu) with hh | hh
    ·have ak:¬ (lV a0 x.pu 0<0):=fun h=>by have h1:=AK x.pu a0;rw[show (a0.any fun y=>decide (y=x.pu))=M from hh] at h1;have h2:=TJ h1;omega
     have HF:Hid (oR (xs.drop (i+1)) (e-(i+1)) a0=zv xs a):=fh (by rw[<-hE.out,BX HX.out (show i<e from hlt),rz,Ro (fun h=>by rw[hh] at h;cases h.2)]);clear hh h1;go_wp2_with(first | (go_at_call 193;(with_reducible refine(zfv (xs:=a0) (hH.out.fy gF).read K9).mono ?_);rintro e2 v2 ⟨rfl,a3⟩;have t1:=za (fu.trans (b:=_) gF a3) v1));go_roundw;exact⟨i+1,A5,c5,S,a0,rfl,Ar,K9,K9,K9,fh (hG.out.trans (fu.trans (b:=_) gF (a3.trans gF))),fh (hH.out.fy (fu.trans (b:=_) gF (a3.trans gF))),hS,HF⟩;exact gM
    ·have ak:lV a0 x.pu 0<0:=by have h1:=AK x.pu a0;rw[show (a0.any fun y=>decide (y=x.pu))=I from hh] at h1;have h2:=UE h1;omega
     have HF:Hid (oR (xs.drop (i+1)) (e-(i+1)) (a0++[x.pu])=zv xs a):=fh (by rw[<-hE.out,BX HX.out (show i<e from hlt),rz,Rs ⟨h1,hh⟩]);clear hh h1;go_wp2_with(first | (go_at_call 193;(with_reducible refine(zfv (xs:=a0) (hH.out.fy gF).read K9).mono ?_);rintro e2 v2 ⟨rfl,a3⟩;have t1:=za (fu.trans (b:=_) gF a3) v1) | (refine zD (W1:=w) (L:=a0.length+1) rfl (.tmp 51) (.tmp 57) tG lA (S:=S) (hH.out.fy (fu.trans (b:=_) gF (a3.trans gF))) (ec:=[V x.pu]) (y:=x.pu) (B:=0) ⟨rfl,b1⟩ rfl rfl rfl (by intro j u hu;simpa[go_sem] using hu) rfl K9 K9 ?_;intro A8 c8 W8 S8 am ab ad));go_roundw
     case measure=>exact gM
     case rel=>
      have aE:=hG.out.size;have an:=a3.size;refine⟨i+1,A8,c8,S8,a0++[x.pu],II,Ar,K9,K9,by simp;omega,fh (am.fy (hG.out.trans (fu.trans (b:=_) gF (a3.trans gF))) hS.out),fh (by rw[Rh];exact ab),fh (fun b hb=>?_),HF⟩;rcases ad b hb with h | h
      ·exact hS.out b h
      ·(try simp at h);(try simp at an);omega
   ·have q1:(x.li == 1)=I:=Rm.2 h1
    have HF:Hid (oR (xs.drop (i+1)) (e-(i+1)) a0=zv xs a):=fh (by rw[<-hE.out,BX HX.out (show i<e from hlt),rz,Ro (fun h=>h1 h.1)]);clear h1;go_wp2_with(fail);go_roundw;exact⟨i+1,A5,c5,S,a0,rfl,Ar,K9,K9,K9,fh (hG.out.trans gF),fh (hH.out.fy gF),hS,HF⟩;exact gM
  ·obtain rfl:i=e:=K9
   have aj:¬ ((i:Int)<(i:Int)):=K9;have HF:Hid (a0=zv xs a):=fh (by have h:=hE.out;rw[St] at h;rw[<-h];cases xs.drop i <;> rfl);go_wp2_with(fail);refine Rj (v:=G A5 a0.length c5) (by simp[Rv,results191,go_sem]) rfl ?_;rw[<-HF.out];exact⟨A5,c5,S,rfl,hH.out,hS.out,hG.out⟩
theorem MY {d:Int} (hX:xs[i]?=D x)(hD:d=zL xs i-zL xs (k+1))(h0:x.li≠0)(h4:x.li≠4):∃ nd,nd=zL xs (i+1)-zL xs (k+1)/\
  (((x.li == 3)=M/\(x.li == 5)=I/\(x.li == 7)=I/\d+1=nd)∨((x.li == 3)=I/\(x.li == 5)=M/\(x.li == 7)=I/\d+1=nd)∨((x.li == 3)=I/\(x.li == 5)=I/\(x.li == 7)=M/\d-1=nd)∨((x.li == 3)=I/\(x.li == 5)=I/\(x.li == 7)=I/\d=nd)):=by
 have h1:=sY hX;refine⟨_,rfl,?_⟩;by_cases h3:x.li=3
 ·have h2:kU x=1:=by unfold kU;rw[h3];rfl
  exact .inl ⟨by rw[h3];rfl,by rw[h3];rfl,by rw[h3];rfl,K9⟩
 by_cases h5:x.li=5
 ·have h2:kU x=1:=by unfold kU;rw[h5];rfl
  exact .inr (.inl ⟨by rw[h5];rfl,by rw[h5];rfl,by rw[h5];rfl,K9⟩)
 by_cases h7:x.li=7
 ·have h2:kU x = -1:=by unfold kU;rw[h7];rfl
  exact .inr (.inr (.inl ⟨by rw[h7];rfl,by rw[h7];rfl,by rw[h7];rfl,K9⟩))
 ·have h2:kU x=0:=by unfold kU nI;rw[Rk h0,Rk h3,Rk h5,Ro qo,Ro h7]
  exact .inr (.inr (.inr ⟨Rm.2 h3,Rm.2 h5,Rm.2 h7,K9⟩))
theorem Kr (h:x.li=0):nW p L k i x=I:=by unfold nW;rw[Rp h];rfl
theorem DX (h:4<zL p (i+1)-zL p (k+1)):nW p L k i x=I:=by unfold nW;rw[Rk (show ¬ (zL p (i+1)-zL p (k+1)<=4) from K9)];simp
theorem BQ (h:kG p L x.Expr=I):nW p L k i x=I:=by unfold nW;rw[h];simp
theorem J0 (h4:x.li=4)(h:rE p k i=I):nW p L k i x=I:=by unfold nW;rw[Rs h4,h];simp
theorem EL (h0:x.li≠0)(h4:x.li=4->rE p k i=M)(hd:zL p (i+1)-zL p (k+1)<=4)(h:kG p L x.Expr=M):nW p L k i x=M:=by
 unfold nW;rw[h,Rp hd,Rk h0];by_cases h:x.li=4
 ·rw[Rs h,h4 h];rfl
 ·rw[Ro h];rfl
theorem wT {l:Q gB} {t:Nat} {y:gB} (h:l[t]?=D y)(f:gB->Bool):(l.drop t).all f=(f y && (l.drop (t+1)).all f):=by
 obtain⟨h1,rfl⟩:=Rd.1 h;rw[Rw h1];rfl
theorem Mp (hh:jG L s=M):¬ (lV L s 0<0):=fun h=>by
 have h1:=AK s L;rw[show (L.any fun y=>decide (y=s))=M from hh] at h1;have h2:=TJ h1;omega
theorem Ox (hh:jG L s=I):lV L s 0<0:=by
 have h1:=AK s L;rw[show (L.any fun y=>decide (y=s))=I from hh] at h1;have h2:=UE h1;omega
theorem En (s:N):∀(l:Q fw)(j:Nat),oB l s j = -1∨∃(f:Nat)(z:fw),oB l s j=((j+f:Nat):Int)/\l[f]?=D z
 | [],_=>.inl rfl
 | x::r,j=>by
  unfold oB;split
  ·exact .inr ⟨0,x,rfl,rfl⟩
  ·rcases En s r (j+1) with h | ⟨f,z,h1,h2⟩
   ·exact .inl h
   ·exact .inr ⟨f+1,z,by rw[h1];congr 1;omega,h2⟩
theorem JF (p:Q fw)(s:N):kz p s = -1∨∃(f:Nat)(z:fw),kz p s=(f:Int)/\p[f]?=D z:=by
 rcases En s p 0 with h | ⟨f,z,h1,h2⟩
 ·exact .inl h
 ·exact .inr ⟨f,z,by rw[kz,h1,RF],h2⟩
theorem WT {g:Prop} (f:g:=by
  have HY:=fh hyk
  clear hyk
  subst hA5
  have w0:=za hGt.out y0
  have w1:=za hGt.out y1
  have w2:=za hGt.out y2
  have hg5w:=Ri hg5 hGt.out.size
  have hgw:=Ri hgb hGt.out.size
  have htn:(t:Int)<(x.Expr.length:Int):=K9
  by_cases k1:y.li=1
  ·have q1:(y.li == 1)=M:=RQ.2 k1
   have q7:(y.li == 7)=I:=Rm.2 (by rw[k1];decide)
   rcases RX (jG L y.pu) with hh | hh
   ·have hix:¬ (lV L y.pu 0<0):=Mp hh
    have HT2:Hid ((x.Expr.drop (t+1)).all (lr xs L)=kG xs L x.Expr):=fh (by rw[<-hT.out,wT HY.out,lr,Rs k1,hh];rfl)
    clear hh k1
    go_wp2_with(first | (go_at_call 193;(with_reducible refine(zfv (xs:=L) (Ty.up _ hHw.out (hGt.out.trans gF)) hLb).mono ?_);rintro e2 v2 ⟨rfl,hg2⟩;obtain⟨bx0,bx1,bx2,_⟩:=sQ (zj (Re wr (F #[J Z y.li,J Z y.gZ,V y.pu] 160)) (fu.trans (b:=_) gF hg2))))
    go_roundw
    exact⟨t+1,Ar,K9,fh (hGt.out.trans (fu.trans (b:=_) gF (hg2.trans gF))),HT2⟩
    exact gM
   ·have hix:lV L y.pu 0<0:=Ox hh
    have hfalse:lr xs L y=I:=by rw[lr,Rs k1,hh]
    clear hh k1
    have HF2:Hid (mE xs k e=I):=fh (by rw[HBO.out,<-hE.out,sZ HX.out hlt,BQ (by rw[<-hT.out,wT HY.out,hfalse];rfl)];simp)
    clear hfalse
    go_wp2_with(first | (go_at_call 193;(with_reducible refine(zfv (xs:=L) (Ty.up _ hHw.out (hGt.out.trans gF)) hLb).mono ?_);rintro e2 v2 ⟨rfl,hg2⟩;obtain⟨bx0,bx1,bx2,_⟩:=sQ (zj (Re wr (F #[J Z y.li,J Z y.gZ,V y.pu] 160)) (fu.trans (b:=_) gF hg2))))
    all_goals exact Rj (v:=H I) (by simp[Rv,results161,go_sem]) rfl ⟨by rw[HF2.out],hg1.trans (hGt.out.trans (fu.trans (b:=_) gF (hg2.trans gF)))⟩
  ·have q1:(y.li == 1)=I:=Rm.2 k1
   by_cases k7:y.li=7
   ·have q7:(y.li == 7)=M:=RQ.2 k7
    rcases JF xs y.pu with hff | ⟨f,z,hff,hz⟩
    ·have HFF:=fh hff
     have hfalse:lr xs L y=I:=by rw[lr,Ro k1,Rs k7,hff];rfl
     have HF2:Hid (mE xs k e=I):=fh (by rw[HBO.out,<-hE.out,sZ HX.out hlt,BQ (by rw[<-hT.out,wT HY.out,hfalse];rfl)];simp)
     clear hff k1 k7 hfalse
     go_wp2_with(first | (go_at_call 159;(with_reducible refine(zc8 (Ty.up _ hx (hg1.trans (hGt.out.trans gF))) hl).mono ?_);rw[HFF.out];rintro e2 v2 ⟨rfl,hg2⟩;obtain⟨bx0,bx1,bx2,_⟩:=sQ (zj (Re wr (F #[J Z y.li,J Z y.gZ,V y.pu] 160)) (fu.trans (b:=_) gF hg2))))
     go_quiet (fail)
     go_wp2_with(fail)
     all_goals exact Rj (v:=H I) (by simp[Rv,results161,go_sem]) rfl ⟨by rw[HF2.out],hg1.trans (hGt.out.trans (fu.trans (b:=_) gF (hg2.trans gF)))⟩
    ·obtain⟨g6,off6,z',A60,c60,A61,c61,hA6,_,hz',z0,z1,z2,z3,_⟩:=lS (Ty.up _ hx hg1) (Rd.1 hz).1
     obtain rfl:z'=z:=by rw[hz] at hz';injection hz' with h;exact h.symm
     injection hA6 with hA6
     injection hA6 with e1 e2
     subst e1 e2
     have wz:=za hGt.out z2
     have hfl:f<xs.length:=(Rd.1 hz).1
     have hfi:(f:Int)<(xs.length:Int):=K9
     have hf0:¬ ((f:Int)<0):=K9
     have HFF:=fh hff
     by_cases har:(z'.fL.length:Int)=y.gZ
     ·have harb:((z'.fL.length:Int) != y.gZ)=I:=by rw[oy,Rp har];rfl
      have HT2:Hid ((x.Expr.drop (t+1)).all (lr xs L)=kG xs L x.Expr):=fh (by rw[<-hT.out,wT HY.out,lr,Ro k1,Rs k7,hff,Ro hf0,Ry,hz];simp only;rw[Rp har];rfl)
      clear hff hz hz' k1 k7 har
      go_wp2_with(first | (go_at_call 159;(with_reducible refine(zc8 (Ty.up _ hx (hg1.trans (hGt.out.trans gF))) hl).mono ?_);rw[HFF.out];rintro e2 v2 ⟨rfl,hg2⟩;obtain⟨bx0,bx1,bx2,_⟩:=sQ (zj (Re wr (F #[J Z y.li,J Z y.gZ,V y.pu] 160)) (fu.trans (b:=_) gF hg2));have ff2:=za (fu.trans (b:=_) gF hg2) wz))
      go_quiet (fail)
      go_wp2_with(fail)
      go_roundw
      exact⟨t+1,Ar,K9,fh (hGt.out.trans (fu.trans (b:=_) gF (hg2.trans gF))),HT2⟩
      exact gM
     ·have harb:((z'.fL.length:Int) != y.gZ)=M:=by rw[oy,Rk har];rfl
      have hfalse:lr xs L y=I:=by rw[lr,Ro k1,Rs k7,hff,Ro hf0,Ry,hz];simp only;rw[Rk har]
      have HF2:Hid (mE xs k e=I):=fh (by rw[HBO.out,<-hE.out,sZ HX.out hlt,BQ (by rw[<-hT.out,wT HY.out,hfalse];rfl)];simp)
      clear hff hz hz' k1 k7 har hfalse
      go_wp2_with(first | (go_at_call 159;(with_reducible refine(zc8 (Ty.up _ hx (hg1.trans (hGt.out.trans gF))) hl).mono ?_);rw[HFF.out];rintro e2 v2 ⟨rfl,hg2⟩;obtain⟨bx0,bx1,bx2,_⟩:=sQ (zj (Re wr (F #[J Z y.li,J Z y.gZ,V y.pu] 160)) (fu.trans (b:=_) gF hg2));have ff2:=za (fu.trans (b:=_) gF hg2) wz))
      go_quiet (fail)
      go_wp2_with(fail)
      all_goals exact Rj (v:=H I) (by simp[Rv,results161,go_sem]) rfl ⟨by rw[HF2.out],hg1.trans (hGt.out.trans (fu.trans (b:=_) gF (hg2.trans gF)))⟩
   ·have q7:(y.li == 7)=I:=Rm.2 k7
    have HT2:Hid ((x.Expr.drop (t+1)).all (lr xs L)=kG xs L x.Expr):=fh (by rw[<-hT.out,wT HY.out,lr,Ro k1,Ro k7];rfl)
    clear k1 k7
    go_wp2_with(fail)
    go_roundw
    exact⟨t+1,Ar,K9,fh (hGt.out.trans gF),HT2⟩
    exact gM):g:=f
theorem vE {g:Prop} (f:g:=by
  go_wp2_with(fail)
  all_goals exact Rj (v:=H I) (by simp[Rv,results161,go_sem]) rfl ⟨by rw[HF.out],hg1.trans (hGi.out.trans gF)⟩):g:=f
theorem vH {g:Prop} (f:g:=by
  go_wp2_with(fail)
  all_goals exact Rj (v:=H I) (by simp[Rv,results161,go_sem]) rfl ⟨by rw[HF.out],hg1.trans (hG.out.trans gF)⟩):g:=f
theorem zux (hx:(zQ.sl 99).R w w.heap.size [G A xs.length c] xs)(hl:xs.length<=1099511627776)(hs:∀ x∈xs,x.fL.length<=1099511627776/\x.Expr.length<=1099511627776)(hends:gz xs k e) :
  RD prog 161 #[G A xs.length c,J Z k,J Z e] w fun r w'=>r=.returned (H (mE xs k e))/\fu w w':=by
 have ak:=hends.len;have av:=hends.lt;obtain⟨L,hL⟩:∃ L,zv xs k=L:=⟨_,rfl⟩
 have a6:=zii (k:=(k:Int)) hx hl hs;rw[hL] at a6;obtain⟨B,hB⟩:∃ B,rD xs L k (xs.drop (k+1)) (e-(k+1)) (k+1)=B:=⟨_,rfl⟩
 have a1:Hid (mE xs k e=(decide (L.length<=8) && B)):=fh (by unfold mE;rw[hL,hB]);have HB:=fh hB;clear hL hB;by_cases h8:8<L.length
 ·have HF:Hid (mE xs k e=I):=fh (by rw[a1.out,Rk K9];rfl)
  have af:(L.length:Int) > 8:=K9;clear h8;go_enter func161,ntmps161;go_wp2_with(first | (go_at_call 191;(with_reducible refine a6.mono ?_);rintro e1 v1 ⟨AL,cL,SL,rfl,ab,ag,hg1⟩))
  all_goals exact Rj (v:=H I) (by simp[Rv,results161,go_sem]) rfl ⟨by rw[HF.out],hg1.trans gF⟩
 have HBO:Hid (mE xs k e=B):=fh (by rw[a1.out,Rp K9];rfl);have hLb:L.length<=8796093022208:=K9;have af:¬ ((L.length:Int) > 8):=K9;have ap:¬ (8<(L.length:Int)):=K9;have aB:Rg Z ((k:Int)+1)=(k:Int)+1:=iw;clear h8;go_enter func161,ntmps161;go_wp2_with(first | (go_at_call 191;(with_reducible refine a6.mono ?_);rintro e1 v1 ⟨AL,cL,SL,rfl,ab,ag,hg1⟩));have hHw:Hid ((iI.sl 9).R v1 v1.heap.size [G AL L.length cL] L):=fh ab.read;go_loopw [8,9] (fun z j wr=>∃(i:Nat) (d:Int),z=J Z d/\j=J Z i/\k<i/\i<=e/\-(i:Int)<=d/\d<=(i:Int)/\Hid (d=zL xs i-zL xs (k+1))/\Hid (fu v1 wr)/\Hid (rD xs L k (xs.drop i) (e-i) i=B)) (fun _ j _=>e-(RS j).toNat)
 case atStart=>exact⟨k+1,0,rfl,Ar,K9,K9,K9,K9,fh K9,fh gF,HB⟩
 case round=>
  obtain⟨i,d,rfl,rfl,aw,au,aq,ar,hD,hG,hE⟩:=hrel;by_cases hlt:i<e
  ·obtain⟨g,aD,x,al,an,am,ao,rfl,hgb,a9,x0,x1,x2,x3,b0,b1,_,h3⟩:=lS (Ty.up _ hx hg1) (show i<xs.length from K9)
   have ai:(i:Int)<(e:Int):=K9;have ah:(i:Int)<(xs.length:Int):=K9;have v0:=za hG.out x0;have v3:=za hG.out x3;have HX:=fh a9;have aC:=(hs x (Rt a9)).2;have hgw:=Ri hgb hG.out.size;clear a9;have az:Rg Z (d+1)=d+1:=iw;have aA:Rg Z (d-1)=d-1:=iw;by_cases hk0:x.li=0
   ·have r0:(x.li == 0)=M:=RQ.2 hk0
    have HF:Hid (mE xs k e=I):=fh (by rw[HBO.out,<-hE.out,sZ HX.out hlt,Kr hk0];rfl);clear hk0;exact vH
   by_cases hk:x.li=4
   ·have r0:(x.li == 0)=I:=Rm.2 (by rw[hk];decide)
    have r3:(x.li == 3)=I:=Rm.2 (by rw[hk];decide);have r5:(x.li == 5)=I:=Rm.2 (by rw[hk];decide);have r7:(x.li == 7)=I:=Rm.2 (by rw[hk];decide);have r4:(x.li == 4)=M:=RQ.2 hk;have HN:Hid (d=zL xs (i+1)-zL xs (k+1)):=fh (by have h1:=sY HX.out;have h2:kU x=0:=(by unfold kU;rw[hk];rfl);have h3:=hD.out;omega);have a4:Hid (x.li≠0):=fh (by rw[hk];decide);have ad:=fh hk;clear hk hk0;go_wp2_with(fail);go_loopw [10,11] (fun z j wi=>∃(b:Bool) (q:Nat),z=H b/\j=J Z q/\k<=q/\q<=i/\Hid (fu v1 wi)/\Hid ((b || (Ui q (i-q)).any fun j=>decide (kh xs j=i))=rE xs k i)) (fun _ j _=>i-(RS j).toNat)
    case atStart=>exact⟨I,k,rfl,rfl,Ru _,K9,fh (hG.out.trans gF),fh rfl⟩
    case round=>
     obtain⟨b,q,rfl,rfl,ax,ay,hGi,a2⟩:=hrel;by_cases hq:q<i
     ·have a8:(q:Int)<(i:Int):=K9
      cases b with
      | true=>
       have HF:Hid ((M || (Ui (q+1) (i-(q+1))).any fun j=>decide (kh xs j=i))=rE xs k i):=fh (by rw[<-a2.out];rfl);go_wp2_with(fail);go_roundw;exact⟨M,q+1,Ar,Ar,K9,K9,fh (hGi.out.trans gF),HF⟩;exact gM
      | false=>
       obtain⟨r,hr⟩:∃ r,kh xs q=r:=⟨_,rfl⟩
       have HR:=fh hr
       have HF:Hid (((r == (i:Int)) || (Ui (q+1) (i-(q+1))).any fun j=>decide (kh xs j=i))=rE xs k i):=fh (by
        rw[<-a2.out,show i-q=(i-(q+1))+1 from K9,List.range'_succ,List.any_cons,hr,Bj]
        rfl)
       clear hr;go_wp2_with(first | (go_at_call 192;(with_reducible refine(zgW (Ty.up _ hx (hg1.trans (hGi.out.trans gF))) hl).mono ?_);rw[HR.out];rintro e2 v2 ⟨rfl,hg2⟩));go_roundw;exact⟨(r == (i:Int)),q+1,Ar,Ar,K9,K9,fh (hGi.out.trans (fu.trans (b:=_) gF (hg2.trans gF))),HF⟩;exact gM
     ·obtain rfl:q=i:=K9
      have a8:¬ ((q:Int)<(q:Int)):=K9;cases b with
      | false=>
       have HF:Hid (mE xs k e=I):=fh (by rw[HBO.out,<-hE.out,sZ HX.out hlt,J0 ad.out (by rw[<-a2.out,St];rfl)];rfl);exact vE
      | true=>
       have a0:Hid (x.li=4->rE xs k q=M):=fh (fun _=>by rw[<-a2.out];rfl);by_cases h4:4<d
       ·have HF:Hid (mE xs k e=I):=fh (by rw[HBO.out,<-hE.out,sZ HX.out hlt,DX (by rw[<-HN.out];omega)];simp)
        have a5:d > 4:=h4;clear h4;exact vE
       have a5:¬ (d > 4):=h4;have ae:¬ (4<d):=h4;clear h4;go_wp2_with(fail);go_loopw [12] (fun j wt=>∃(t:Nat),j=J Z t/\t<=x.Expr.length/\Hid (fu v1 wt)/\Hid ((x.Expr.drop t).all (lr xs L)=kG xs L x.Expr)) (fun j _=>x.Expr.length-(RS j).toNat)
       case atStart=>exact⟨0,rfl,Rl _,fh (hGi.out.trans gF),fh rfl⟩
       case round=>
        obtain⟨t,rfl,ht,hGt,hT⟩:=hrel;have w3:=za hGt.out x3;by_cases htl:t<x.Expr.length
        ·obtain⟨g5,aa,y,hA5,hg5,hyk,y0,y1,y2,yk,yn,ys⟩:=ue h3 htl
         exact WT
        ·obtain rfl:t=x.Expr.length:=K9
         have htn:¬ ((x.Expr.length:Int)<(x.Expr.length:Int)):=K9
         have a3:Hid (rD xs L k (xs.drop (q+1)) (e-(q+1)) (q+1)=B):=fh (by
          rw[<-hE.out,sZ HX.out hlt,EL a4.out a0.out (by rw[<-HN.out];omega) (by rw[<-hT.out,RL];rfl)]
          rfl)
         go_wp2_with(fail);go_roundw;exact⟨q+1,d,Ar,Ar,K9,K9,K9,K9,HN,fh (hGt.out.trans gF),a3⟩;exact gM
   obtain⟨nd,ac,aj⟩:=MY HX.out hD.out hk0 hk;have r0:(x.li == 0)=I:=Rm.2 hk0;have r4:(x.li == 4)=I:=Rm.2 hk;have HN:=fh ac;have a4:=fh hk0;have a0:Hid (x.li=4->rE xs k i=M):=fh (fun h=>absurd h hk);clear hk0 hk ac;rcases aj with⟨r3,r5,r7,a7⟩ | ⟨r3,r5,r7,a7⟩ | ⟨r3,r5,r7,a7⟩ | ⟨r3,r5,r7,a7⟩
   all_goals
    by_cases h4:4<nd
    ·have HF:Hid (mE xs k e=I):=fh (by rw[HBO.out,<-hE.out,sZ HX.out hlt,DX (by rw[<-HN.out];omega)];simp)
     have a5:nd > 4:=h4;clear h4;exact vH
    have a5:¬ (nd > 4):=h4
    have ae:¬ (4<nd):=h4
    clear h4
    go_wp2_with(fail)
    go_loopw [12] (fun j wt=>∃(t:Nat),j=J Z t/\t<=x.Expr.length/\Hid (fu v1 wt)/\Hid ((x.Expr.drop t).all (lr xs L)=kG xs L x.Expr)) (fun j _=>x.Expr.length-(RS j).toNat)
    case atStart=>exact⟨0,rfl,Rl _,fh (hG.out.trans gF),fh rfl⟩
    case round=>
     obtain⟨t,rfl,ht,hGt,hT⟩:=hrel;have w3:=za hGt.out x3;by_cases htl:t<x.Expr.length
     ·obtain⟨g5,aa,y,hA5,hg5,hyk,y0,y1,y2,yk,yn,ys⟩:=ue h3 htl
      exact WT
     ·obtain rfl:t=x.Expr.length:=K9
      have htn:¬ ((x.Expr.length:Int)<(x.Expr.length:Int)):=K9
      have a3:Hid (rD xs L k (xs.drop (i+1)) (e-(i+1)) (i+1)=B):=fh (by
       rw[<-hE.out,sZ HX.out hlt,EL a4.out a0.out (by rw[<-HN.out];omega) (by rw[<-hT.out,RL];rfl)]
       rfl)
      go_wp2_with(fail);go_roundw;exact⟨i+1,nd,Ar,Ar,K9,K9,K9,K9,HN,fh (hGt.out.trans gF),a3⟩;exact gM
  ·obtain rfl:i=e:=K9
   have ai:¬ ((i:Int)<(i:Int)):=K9;have HF:Hid (mE xs k i=M):=fh (by rw[HBO.out,<-hE.out,St];cases xs.drop i <;> rfl);go_wp2_with(fail);exact Rj (v:=H M) (by simp[Rv,results161,go_sem]) rfl ⟨by rw[HF.out],hg1.trans (hG.out.trans gF)⟩
theorem Gf:tI.toList = [109,97,105,110]:=by unfold tI;simp[go_sem]
theorem Nv (h:60<p.length):zx p=I:=by unfold zx;rw[Rk K9];rfl
theorem AQ (h:qq p=I):zx p=I:=by unfold zx;rw[h];simp
theorem Nu (h:6<(zq p).length):zx p=I:=by unfold zx;rw[Rk (show ¬ ((zq p).length<=6) from K9)];simp
theorem FJ (h:oW p p 0=I):zx p=I:=by unfold zx;rw[h];simp
theorem Nw (h1:p.length<=60)(h2:qq p=M)(h3:(zq p).length<=6)(h4:oW p p 0=M):zx p=pe p p.length 0:=by unfold zx;rw[Rp h1,h2,Rp h3,h4];simp
theorem Ot (h:p[0]?=D x)(h0:x.li≠0):qq p=I:=by unfold qq;rw[h];simp only;rw[Rk h0];rfl
theorem Ou (h:p[0]?=D x)(h0:x.pu≠tI):qq p=I:=by unfold qq;rw[h];simp only;rw[Rk h0];simp
theorem Ov (h:p[0]?=D x)(h0:x.fL.length≠0):qq p=I:=by unfold qq;rw[h];simp only;rw[Rk h0];simp
theorem Ow (h:p[0]?=D x)(h0:x.li=0)(h1:x.pu=tI)(h2:x.fL.length=0):qq p=M:=by unfold qq;rw[h];simp only;rw[Rp h0,Rp h1,Rp h2];rfl
theorem NQ (h:p[k]?=D x)(hn:p.length<=n+k):pe p n k=(decide (x.li=0) && (decide (0<=iP p k) && (mE p k (iP p k).toNat && pe p (n-1) ((iP p k).toNat+1)))):=by
 have hl:=(Rd.1 h).1
 match n,hn with
 | 0,hn=>omega
 | n+1,hn=>
  rw[pe,h];rfl
theorem Me (h:p.length<=k):pe p n k=M:=by
 match n with
 | 0=>rfl
 | n+1=>rw[pe,To h]
theorem ow {g:Prop} (f:g:=by
  go_enter func102,ntmps102
  go_wp2_with(fail)
  all_goals exact Rj (v:=H I) (by simp[Rv,results102,go_sem]) rfl ⟨by rw[HF.out],gF⟩):g:=f
theorem uM {g:Prop} (f:g:=by
  go_wp2_with(first | (go_at_call 160;(with_reducible refine(zbo (Ty.up _ hx (hG.out.trans gF)) hl).mono ?_);rw[HE.out];rintro e2 v2 ⟨rfl,hg2⟩;have u0:=za (hG.out.trans (fu.trans (b:=_) gF hg2)) x0))
  all_goals exact Rj (v:=H I) (by simp[Rv,results102,go_sem]) rfl ⟨by rw[HF.out],hG.out.trans (fu.trans (b:=_) gF (hg2.trans gF))⟩):g:=f
theorem zaK (hx:(zQ.sl 99).R w w.heap.size [G A xs.length c] xs)(hl:xs.length<=1099511627776)(hs:∀ x∈xs,x.fL.length<=1099511627776/\x.Expr.length<=1099511627776) :
  RD prog 102 #[G A xs.length c] w fun r w'=>r=.returned (H (zx xs))/\fu w w':=by
 by_cases h00:xs.length=0
 ·have HF:Hid (zx xs=I):=fh (AQ (by unfold qq;rw[To K9]))
  have aq:((xs.length:Int) == 0)=M:=RQ.2 K9;clear h00;exact ow
 have aq:((xs.length:Int) == 0)=I:=Rm.2 K9;by_cases h60:60<xs.length
 ·have HF:Hid (zx xs=I):=fh (Nv h60)
  have ac:(xs.length:Int) > 60:=K9;clear h00 h60;exact ow
 have ac:¬ ((xs.length:Int) > 60):=K9;have ar:¬ (60<(xs.length:Int)):=K9;obtain⟨g,aK,y,aA,aC,aB,aD,rfl,aG,hy,y0,y1,y2,y3,_,_,_,_⟩:=lS hx (k:=0) K9;simp only[UT,Sr] at y0 y1 y2 y3;have ay:(0:Int)<(xs.length:Int):=K9;have ae:=zbI hx hl;obtain⟨FL,ad⟩:∃ FL,zq xs=FL:=⟨_,rfl⟩
 rw[ad] at ae;have aj:=fh ad;clear ad;by_cases k0:y.li=0
 rotate_left
 ·have HF:Hid (zx xs=I):=fh (AQ (Ot hy k0))
  have q0:(y.li != 0)=M:=by rw[oy,Rk k0];rfl
  clear k0 h00 h60 hy;exact ow
 have q0:(y.li != 0)=I:=by rw[oy,Rp k0];rfl
 by_cases k1:y.pu=tI
 rotate_left
 ·have HF:Hid (zx xs=I):=fh (AQ (Ou hy k1))
  have q1:(y.pu.toList == [109,97,105,110])=I:=by rw[<-Gf,lC];exact Rk k1
  clear k0 k1 h00 h60 hy;exact ow
 have q1:(y.pu.toList == [109,97,105,110])=M:=by rw[<-Gf,lC];exact Rp k1
 by_cases k2:y.fL.length=0
 rotate_left
 ·have HF:Hid (zx xs=I):=fh (AQ (Ov hy k2))
  have q2:((y.fL.length:Int) != 0)=M:=by rw[oy,Rk K9];rfl
  clear k0 k1 k2 h00 h60 hy;exact ow
 have q2:((y.fL.length:Int) != 0)=I:=by rw[oy,Rp K9];rfl
 have HH:=fh (Ow hy k0 k1 k2);clear k0 k1 k2 hy;by_cases k6:6<FL.length
 ·have HF:Hid (zx xs=I):=fh (Nu (by rw[aj.out];exact k6))
  have az:(FL.length:Int) > 6:=K9;clear k6 h00 h60;go_enter func102,ntmps102;go_wp2_with(first | (go_at_call 106;(with_reducible refine ae.mono ?_);rintro e1 v1 ⟨AF,cF,SF,rfl,av,aw,af⟩))
  all_goals exact Rj (v:=H I) (by simp[Rv,results102,go_sem]) rfl ⟨by rw[HF.out],af.trans gF⟩
 have az:¬ ((FL.length:Int) > 6):=K9;have aJ:¬ (6<(FL.length:Int)):=K9;have an:Hid ((zq xs).length<=6):=fh (by rw[aj.out];omega);have ab:Hid (xs.length<=60):=fh K9;clear k6 h60;go_enter func102,ntmps102;go_wp2_with(first | (go_at_call 106;(with_reducible refine ae.mono ?_);rintro e1 v1 ⟨AF,cF,SF,rfl,av,aw,af⟩));go_loopw [3] (fun j wr=>∃(i:Nat),j=J Z i/\i<=xs.length/\Hid (fu w wr)/\Hid (oW xs (xs.drop i) i=oW xs xs 0)) (fun j _=>xs.length-(RS j).toNat)
 case atStart=>exact⟨0,rfl,Rl _,fh (af.trans gF),fh rfl⟩
 case round=>
  obtain⟨i,rfl,hi,hG,hE⟩:=hrel;by_cases hlt:i<xs.length
  ·obtain⟨g2,ah,x,al,ao,am,ap,a3,_,a5,x0,x1,x2,x3,b0,b1,h2,h3⟩:=lS hx hlt
   injection a3 with a3
   injection a3 with e1 e2
   subst e1 e2;have ag:(i:Int)<(xs.length:Int):=K9;have v0:=za hG.out x0;have aL:=za hG.out x1;have aM:=za hG.out x2;have v3:=za hG.out x3;obtain⟨a8,a9⟩:=hs x (Rt a5);have HX:=fh a5;clear a5;rcases RX (oC x) with a1 | a1
   rotate_left
   ·have a6:=fh a1
    have HF:Hid (zx xs=I):=fh (FJ (by rw[<-hE.out,Az HX.out];unfold sI;rw[a1];rfl));clear a1;go_wp2_with(first | (go_at_call 158;(with_reducible refine(ziT (x:=x) b1 (Ty.up _ h2 (hG.out.trans gF)) (Ty.up _ h3 (hG.out.trans gF)) a8 a9).mono ?_);rw[a6.out];rintro e2 v2 ⟨rfl,hg2⟩;have u0:=za (hG.out.trans (fu.trans (b:=_) gF hg2)) x0;have u1:=za (hG.out.trans (fu.trans (b:=_) gF hg2)) x1))
    all_goals exact Rj (v:=H I) (by simp[Rv,results102,go_sem]) rfl ⟨by rw[HF.out],hG.out.trans (fu.trans (b:=_) gF (hg2.trans gF))⟩
   have a6:=fh a1;by_cases k0:x.li=0
   ·have ai:(x.li == 0)=M:=RQ.2 k0
    by_cases hf:kz xs x.pu=i
    ·have qf:(kz xs x.pu != (i:Int))=I:=by rw[oy,Rp hf];rfl
     have HF:Hid (oW xs (xs.drop (i+1)) (i+1)=oW xs xs 0):=fh (by rw[<-hE.out,Az HX.out];unfold sI;rw[a1,Rs k0,Rp hf];rfl);clear a1 k0 hf;go_wp2_with(first | (go_at_call 158;(with_reducible refine(ziT (x:=x) b1 (Ty.up _ h2 (hG.out.trans gF)) (Ty.up _ h3 (hG.out.trans gF)) a8 a9).mono ?_);rw[a6.out];rintro e2 v2 ⟨rfl,hg2⟩;have u0:=za (hG.out.trans (fu.trans (b:=_) gF hg2)) x0;have u1:=za (hG.out.trans (fu.trans (b:=_) gF hg2)) x1) | (go_at_call 159;(with_reducible refine(zc8 (Ty.up _ hx (hG.out.trans (fu.trans (b:=_) gF (hg2.trans gF)))) hl).mono ?_);rintro e3 v3 ⟨rfl,a4⟩));go_roundw;exact⟨i+1,Ar,K9,fh (hG.out.trans (fu.trans (b:=_) gF (hg2.trans (fu.trans (b:=_) gF (a4.trans gF))))),HF⟩;exact gM
    ·have qf:(kz xs x.pu != (i:Int))=M:=by rw[oy,Rk hf];rfl
     have HF:Hid (zx xs=I):=fh (FJ (by rw[<-hE.out,Az HX.out];unfold sI;rw[a1,Rs k0,Rk hf];rfl));clear a1 k0 hf;go_wp2_with(first | (go_at_call 158;(with_reducible refine(ziT (x:=x) b1 (Ty.up _ h2 (hG.out.trans gF)) (Ty.up _ h3 (hG.out.trans gF)) a8 a9).mono ?_);rw[a6.out];rintro e2 v2 ⟨rfl,hg2⟩;have u0:=za (hG.out.trans (fu.trans (b:=_) gF hg2)) x0;have u1:=za (hG.out.trans (fu.trans (b:=_) gF hg2)) x1) | (go_at_call 159;(with_reducible refine(zc8 (Ty.up _ hx (hG.out.trans (fu.trans (b:=_) gF (hg2.trans gF)))) hl).mono ?_);rintro e3 v3 ⟨rfl,a4⟩))
     all_goals exact Rj (v:=H I) (by simp[Rv,results102,go_sem]) rfl ⟨by rw[HF.out],hG.out.trans (fu.trans (b:=_) gF (hg2.trans (fu.trans (b:=_) gF (a4.trans gF))))⟩
   ·have ai:(x.li == 0)=I:=Rm.2 k0
    have HF:Hid (oW xs (xs.drop (i+1)) (i+1)=oW xs xs 0):=fh (by rw[<-hE.out,Az HX.out];unfold sI;rw[a1,Ro k0];rfl);clear a1 k0;go_wp2_with(first | (go_at_call 158;(with_reducible refine(ziT (x:=x) b1 (Ty.up _ h2 (hG.out.trans gF)) (Ty.up _ h3 (hG.out.trans gF)) a8 a9).mono ?_);rw[a6.out];rintro e2 v2 ⟨rfl,hg2⟩;have u0:=za (hG.out.trans (fu.trans (b:=_) gF hg2)) x0;have u1:=za (hG.out.trans (fu.trans (b:=_) gF hg2)) x1));go_roundw;exact⟨i+1,Ar,K9,fh (hG.out.trans (fu.trans (b:=_) gF (hg2.trans gF))),HF⟩;exact gM
  ·obtain rfl:i=xs.length:=K9
   have ag:¬ ((xs.length:Int)<(xs.length:Int)):=K9;have a7:Hid (zx xs=pe xs xs.length 0):=fh (Nw ab.out HH.out an.out (by rw[<-hE.out,RL];rfl));have au:=hG;clear hG hE;go_wp2_with(fail);go_loopw [4] (fun j wr=>∃(k n:Nat),j=J Z k/\k<=xs.length/\xs.length<=n+k/\Hid (fu w wr)/\Hid (pe xs n k=pe xs xs.length 0)) (fun j _=>xs.length-(RS j).toNat)
   case atStart=>exact⟨0,xs.length,rfl,Rl _,K9,fh (au.out.trans gF),fh rfl⟩
   case round=>
    obtain⟨k,n,rfl,hk,ax,hG,hE⟩:=hrel;by_cases hlt:k<xs.length
    ·obtain⟨g2,ah,x,al,ao,am,ap,a3,_,a5,x0,_,_,_,_,_,_,_⟩:=lS hx hlt
     injection a3 with a3
     injection a3 with e1 e2
     subst e1 e2;have ag:(k:Int)<(xs.length:Int):=K9;have v0:=za hG.out x0;have a2:=NQ a5 ax;clear a5;by_cases k0:x.li=0
     rotate_left
     ·have ai:(x.li != 0)=M:=by rw[oy,Rk k0];rfl
      have HF:Hid (zx xs=I):=fh (by rw[a7.out,<-hE.out,a2,Rk k0];rfl);obtain⟨ev,ak⟩:∃ ev,iP xs k=ev:=⟨_,rfl⟩
      have HE:=fh ak;clear ak a2 k0;exact uM
     have ai:(x.li != 0)=I:=by rw[oy,Rp k0];rfl
     rcases wY xs k with⟨he,_⟩ | ⟨e,he,a0⟩
     ·have HE:=fh he
      have HF:Hid (zx xs=I):=fh (by rw[a7.out,<-hE.out,a2,he,Rp k0];rfl);clear he a2 k0;exact uM
     have HE:=fh he;have aF:=a0.len;have aH:=a0.lt;have aE:¬ ((e:Int)<0):=K9;have aI:Rg Z ((e:Int)+1)=(e:Int)+1:=iw;rw[he,Ry,Rp k0,Rp (show (0:Int)<=(e:Int) from K9),TP,TP] at a2;rcases RX (mE xs k e) with hb | hb
     ·have aa:=fh hb
      have HF:Hid (pe xs (n-1) (e+1)=pe xs xs.length 0):=fh (by rw[<-hE.out,a2,hb,TP]);clear he a2 k0 hb;go_wp2_with(first | (go_at_call 160;(with_reducible refine(zbo (Ty.up _ hx (hG.out.trans gF)) hl).mono ?_);rw[HE.out];rintro e2 v2 ⟨rfl,hg2⟩;have u0:=za (hG.out.trans (fu.trans (b:=_) gF hg2)) x0) | (go_at_call 161;(with_reducible refine(zux (Ty.up _ hx (hG.out.trans (fu.trans (b:=_) gF (hg2.trans gF)))) hl hs a0).mono ?_);rw[aa.out];rintro e3 v3 ⟨rfl,a4⟩));go_roundw;exact⟨e+1,n-1,Ar,K9,K9,fh (hG.out.trans (fu.trans (b:=_) gF (hg2.trans (fu.trans (b:=_) gF (a4.trans gF))))),HF⟩;exact gM
     ·have aa:=fh hb
      have HF:Hid (zx xs=I):=fh (by rw[a7.out,<-hE.out,a2,hb];rfl);clear he a2 k0 hb;go_wp2_with(first | (go_at_call 160;(with_reducible refine(zbo (Ty.up _ hx (hG.out.trans gF)) hl).mono ?_);rw[HE.out];rintro e2 v2 ⟨rfl,hg2⟩;have u0:=za (hG.out.trans (fu.trans (b:=_) gF hg2)) x0) | (go_at_call 161;(with_reducible refine(zux (Ty.up _ hx (hG.out.trans (fu.trans (b:=_) gF (hg2.trans gF)))) hl hs a0).mono ?_);rw[aa.out];rintro e3 v3 ⟨rfl,a4⟩))
      all_goals exact Rj (v:=H I) (by simp[Rv,results102,go_sem]) rfl ⟨by rw[HF.out],hG.out.trans (fu.trans (b:=_) gF (hg2.trans (fu.trans (b:=_) gF (a4.trans gF))))⟩
    ·obtain rfl:k=xs.length:=K9
     have ag:¬ ((xs.length:Int)<(xs.length:Int)):=K9;have HF:Hid (zx xs=M):=fh (by rw[a7.out,<-hE.out];exact Me (Ru _));go_wp2_with(fail);exact Rj (v:=H M) (by simp[Rv,results102,go_sem]) rfl ⟨by rw[HF.out],hG.out.trans gF⟩
def yT (W:U)(k:Nat)(A:X RJ)(c:Nat)(p:Q fw):Prop:=∀ W2,fx [k] W W2->(zQ.sl 99).R W2 W2.heap.size [G A p.length c] p
structure iA (p:Q fw):Prop where
 ok:zx p=M
 short:oD p
 four:(zq p).length<=4
 len:p.length<=1000
 parts:∀ x∈p,x.fL.length<=1099511627776/\x.Expr.length<=1099511627776
theorem iA.of (h:zx p=M)(hl:∀ x∈p,sV x)(hc:pj p<=4)(hn:p.length<=500):iA p:=
 ⟨h,fun i x hx=>(hl x (Rt hx)).1,by unfold zq;rw[Gx];exact hc,K9,fun x hx=>⟨by have:=(hl x hx).2;omega,by have:=(hl x hx).1;omega⟩⟩
theorem iA.one:iA xE:=iA.of P8 (fun x hx=>by
 simp only[xE,RO,Sq,Tm] at hx
 rcases hx with rfl | rfl | rfl | rfl <;> exact⟨qo,qo⟩) qo qo
theorem iA.names (h:iA p):∀ x∈p,x.pu.size<=9223372036854775807:=by
 intro x hx;obtain⟨i,hi,rfl⟩:=List.getElem_of_mem hx;have h1:=Ge h.ok (i:Int);rw[xm (Rn hi)] at h1;omega
def Qk (w W:U)(k:Nat)(e:Ending)(W':U):Prop:=∃ A c p S,e=.returned (G A p.length c)/\iA p/\(zQ.sl 99).O W' [G A p.length c] p S/\(∀ b∈S,W.heap.size<=b)/\iO w W' k/\fx [k] W W'
theorem Qc {W':U} {S:Q Nat} (h:(zQ.sl 99).O W' [G A p.length c] p S)(hk:k∉S):yT W' k A c p:=
 fun W2 h2=>Ty.read _ ((zQ.sl 99).gD h (fun b hb=>h2.block b ((zQ.sl 99).iY h b hb) (fun hm=>by simp only[Rc] at hm;subst hm;exact hk hb)))
theorem P9 {g1 g2:Nat} (h1:W.heap[g1]?=D (F #[J Z 0,J Z 1,V { data:=#[] }] 160 (0,0)))
  (h2:W.heap[g2]?=D (F #[J Z 0,V { data:=#[109,97,105,110] },G C 0 0,G C 0 0,J Z 2,V { data:=#[] },G C 0 0,G (D ⟨g1,0,C⟩) 1 1,J Z 6,V { data:=#[] },G C 0 0,G (D ⟨g1,0,C⟩) 1 1,J Z 7,V { data:=#[] },G C 0 0,G C 0 0] 99 (0,0)))
 : (zQ.sl 99).O W [G (D ⟨g2,0,C⟩) 4 4] xE [g2,g1,g1]:=by
 have k1:=h1
 have k2:=h2
 have ht:(jf.sl 160).O W [G (D ⟨g1,0,C⟩) 1 1] [(⟨0,1,Wy⟩:gB)] [g1]:=
  qi (xs:=[(⟨0,1,Wy⟩:gB)]) k1 (S:=[]) ⟨_,[],[],[],rfl,rfl,O1 (x:=⟨0,1,Wy⟩) ⟨qo,qo⟩ ⟨qo,qo⟩ qo,⟨rfl,rfl⟩⟩ qo
 have a0:=(Has.nil iI 9 W).1
 have a1:=(Has.nil jf 160 W).1
 have hO:=qi (T:=zQ) (xs:=xE) (S:=[g1,g1]) k2 ⟨_,_,[],[g1,g1],rfl,rfl,yx (x:=⟨0,tI,[],[]⟩) C 0 [] C 0 [] ⟨qo,qo⟩ qo a0 a1,
  ⟨_,_,[g1],[g1],rfl,rfl,yx (x:=⟨2,Wy,[],[⟨0,1,Wy⟩]⟩) C 0 [] (D ⟨g1,0,C⟩) 1 [g1] ⟨qo,qo⟩ qo a0 ht,
  ⟨_,_,[g1],[],rfl,rfl,yx (x:=⟨6,Wy,[],[⟨0,1,Wy⟩]⟩) C 0 [] (D ⟨g1,0,C⟩) 1 [g1] ⟨qo,qo⟩ qo a0 ht,
  ⟨_,[],[],[],rfl,rfl,yx (x:=⟨7,Wy,[],[]⟩) C 0 [] C 0 [] ⟨qo,qo⟩ qo a0 a1,⟨rfl,rfl⟩⟩⟩⟩⟩ qo
 exact hO
theorem zwu (hC:iO w W k):RD prog 68 #[.pointer (D ⟨k,0,C⟩)] W (Qk w W k):=by
 have a4:=hC.lt;go_enter func68,ntmps68;go_wp2_with(fail);go_loopw [3] (fun i wr=>∃ j:Nat,i=J Z j/\j<=5/\Hid (iO w wr k)/\Hid (fx [k] W wr)) (fun i _=>5-(RS i).toNat)
 case atStart=>exact⟨0,rfl,K9,fh hC,fh (fx.refl _ _)⟩
 obtain⟨j,rfl,hj,HC,HO⟩:=hrel;by_cases hlt:j<5
 ·have a1:(j:Int)<5:=K9
  have a6:Rg Z ((j:Int)+1)=(j:Int)+1:=iw;go_upto_region 5 with(go_at_call 101;(with_reducible refine(ztJ HC.out).mono ?_);rintro e W1 ⟨A,n,c,out,S,rfl,hn,hL,hF,h1⟩);obtain rfl:=h1.len;obtain⟨pb,a0⟩:∃ pb,zx out=pb:=⟨_,rfl⟩
  have a2:=fh a0;have a3:=fh (fun(x:fw) (hx:x∈out)=>(⟨by have:=(hL x hx).2;omega,by have:=(hL x hx).1;omega⟩:x.fL.length<=1099511627776/\x.Expr.length<=1099511627776));cases pb with
  | true=>
   have hD:=fh (iA.of a0 hL hF hn);clear a0 hL hF;go_wp2_with(go_at_call 102;(with_reducible refine(zaK h1.has.read K9 a3.out).mono ?_);rw[a2.out];rintro e W2 ⟨rfl,hG⟩);go_ret;have h2:=h1.fy hG;exact⟨A,c,out,S,rfl,hD.out,h2.has.1,fun b hb=>RG HO.out.size (h2.lo b hb),h2.cur,HO.out.trans h2.only⟩
  | false=>
   clear a0 hL hF;go_wp2_with(go_at_call 102;(with_reducible refine(zaK h1.has.read K9 a3.out).mono ?_);rw[a2.out];rintro e W2 ⟨rfl,hG⟩);go_roundw
   case measure=>exact gM
   case rel=>
    have h2:=h1.fy hG;exact⟨j+1,Ar,K9,fh h2.cur,fh (HO.out.trans h2.only)⟩
 ·have a1:¬ (j:Int)<5:=K9
  go_wp2_with(fail);have a5:=HC.out.lt;have e1:=Re wr (F #[J Z 0,J Z 1,V { data:=#[] }] 160);have e2:=Re (wr.alloc (F #[J Z 0,J Z 1,V { data:=#[] }] 160)) (F #[J Z 0,V { data:=#[109,97,105,110] },G C 0 0,G C 0 0,J Z 2,V { data:=#[] },G C 0 0,G (D ⟨wr.heap.size,0,C⟩) 1 1,J Z 6,V { data:=#[] },G C 0 0,G (D ⟨wr.heap.size,0,C⟩) 1 1,J Z 7,V { data:=#[] },G C 0 0,G C 0 0] 99);rw[Rz] at e2;have hG:fu wr ((wr.alloc (F #[J Z 0,J Z 1,V { data:=#[] }] 160)).alloc (F #[J Z 0,V { data:=#[109,97,105,110] },G C 0 0,G C 0 0,J Z 2,V { data:=#[] },G C 0 0,G (D ⟨wr.heap.size,0,C⟩) 1 1,J Z 6,V { data:=#[] },G C 0 0,G (D ⟨wr.heap.size,0,C⟩) 1 1,J Z 7,V { data:=#[] },G C 0 0,G C 0 0] 99)):=gG;have e1:=zj e1 (show fu _ ((wr.alloc (F #[J Z 0,J Z 1,V { data:=#[] }] 160)).alloc (F #[J Z 0,V { data:=#[109,97,105,110] },G C 0 0,G C 0 0,J Z 2,V { data:=#[] },G C 0 0,G (D ⟨wr.heap.size,0,C⟩) 1 1,J Z 6,V { data:=#[] },G C 0 0,G (D ⟨wr.heap.size,0,C⟩) 1 1,J Z 7,V { data:=#[] },G C 0 0,G C 0 0] 99)) from gG);go_ret;exact⟨D ⟨wr.heap.size+1,0,C⟩,4,xE,_,rfl,iA.one,P9 (g1:=wr.heap.size) (g2:=wr.heap.size+1) e1 e2,fun b hb=>by have:=HO.out.size;simp only[RO,Sq,Tm] at hb;omega,HC.out.more hG,HO.out.trans (hG.only _)⟩
theorem ye {b:fY}:RD prog 104 #[.agg #[J Z b.M2,J Z b.IR,H b.Wz,H b.NE]] w fun r w'=>r=.returned (H (jP b))/\fu w w':=by
 go_enter func104,ntmps104;go_wp2_with(first | (go_at_call 43;(with_reducible refine(gW _ _ _ _).mono ?_);rintro e w1 ⟨rfl,rfl⟩))
 all_goals
  go_ret
  refine⟨zp ?_,gG⟩
  unfold jP
  simp_all
end Go.Proofs.YthgbglbaemelhaaGreat
