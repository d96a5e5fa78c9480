/-
  PART.
-/
import Derived.Test.YthgbglbaemelhaaGreatM6LawRecords
import Derived.Test.YthgbglbaemelhaaGreatM7LawRecords
set_option linter.unusedVariables false
set_option linter.unusedSimpArgs false
set_option maxRecDepth 100000
set_option maxHeartbeats 8000000
namespace Go.Proofs.YthgbglbaemelhaaGreat
open Value renaming slice->J,int->C,bool->X,string->Q
open IntKind renaming i64->Z,wrap->Vl
open Option renaming none->I,some->F
open Obj renaming cells->U
open Bool renaming false->M,true->H
open Go renaming World->V,results->VF,Calls->VK,Addr->VQ,TypeId->Wl,bytes->WZ,Ending->Z9,yielded->Xb
open World renaming cell?->Vg
open RowKit renaming intOf->Wj
open _root_.Nat renaming add_zero->Wk
open List renaming nil_append->Wo,take_zero->Xk,set_cons_zero->Zt,set_cons_succ->Zu
open Builtin renaming append_->WS
open Region renaming wanted->V6,ready->Wv,noSelect->XV,free->YI
open Tryz
open Go.RowKit
variable {A A0 A1 A2:N VQ}{L S:D Nat}{W W' w:V}{ars:D Int}{c c0 c1 c2 d gb k n:Nat}{e:Wl}{kd:Int}{o out p:D fB}{vars:D G}
section
variable {α:Type} {T:Ty α} {e:Wl} {P:Program} {t ty:Wl} {WZ:Nat}
theorem MC (hE:iZ P t e T WZ){W:V}{S:D Nat}{A:N VQ}{n c:Nat}{xs:D α}(h:Has (T.sl e) W [J A n c] xs S)
  {A2:N VQ} {m c2:Nat} {ys:D α} {Sy:D Nat} (hy:Has (T.sl e) W [J A2 m c2] ys Sy) (hd:∀ b∈S,b∉Sy)
  {L:Nat} (hL:L=n+m) (hb:L*WZ<=140737488355328) (h63:L<=9223372036854775807) :
  ∃ A' c'' W' S',(WS #[t,t] ty #[J A n c,J A2 m c2]).run P W=.ok (J A' L c'') W'/\fG S W W'/\Has (T.sl e) W' [J A' L c''] (xs++ys) S'/\∀ b∈S',b∈S∨b∈Sy∨W.heap.size<=b:=by
 obtain⟨⟨A3,c3,a5,S3,hv,a8,a3,a6⟩,hN⟩:=hy;injection hv with hv _
 injection hv with hA hn hc
 subst hA hn hc a6;rw[Wb] at hN;obtain⟨a7,a1⟩:=a8;rcases a1 with⟨hv,hn⟩ | ⟨g,aa,a4,hv,_,hg,ae,ab,ac,a2⟩
 ·injection hv with hA _ hc
  subst hA hc;have a9:ys = []:=Xu (by omega);subst a9;subst hL;exact⟨A,c,W,S,Gi hE h _,fG.refl _ _,by simpa using h,fun b hb=>.inl hb⟩
 ·injection hv with hA _ hc
  subst hA hc
  have a0:∀(j:Nat) (u:Value),a5[j]?=F u->W.cell? (Addr.add ⟨g,0,I⟩ j)=F u:=by
   intro j u hu;rw[XO,VJ,WC W g j a4 e (0,0) hg];rw[<-a2,Xh] at hu;split at hu
   ·simpa using hu
   ·cases hu
  obtain⟨A',c'',W',S',k1,k2,k3,k4⟩:=Bl (P:=P) (ty:=ty) hE h (ad:=⟨g,0,I⟩) a3 rfl a0 hN.2.1 (fun b hb hm=>hd b hb (VV _ hm)) hL hb h63;exact⟨A',c'',W',S',k1,k2,k3,fun b hb=>(k4 b hb).elim .inl (fun h=>h.elim (fun h=>.inr (.inl (VV _ h))) (fun h=>.inr (.inr h)))⟩
end
section
variable {α:Type} {T:Ty α} {e:Wl} {P:Program} {t:Wl} {WZ:Nat} {ops:Array Oper} {rest:D Oper} {o:Oper} {a:Act} {Vc:Exit->Act->V->Prop} {K:Act->V->Prop}
theorem Ck (hgd:o.guard=I)(s x:Operand)(hE:iZ P t e T WZ){W:V}{S:D Nat}{A:N VQ}{n c:Nat}{xs:D α}(h:Has (T.sl e) W [J A n c] xs S)
  {A2:N VQ} {m c2:Nat} {ys:D α} {Sy:D Nat} (hy:Has (T.sl e) W [J A2 m c2] ys Sy) (hd:∀ b∈S,b∉Sy)
  (ho:o.op=.call { callee:=.builtin .append,args:=#[s,x],argTypes:=#[t,t] }) (hs:a.eval s=J A n c) (hx:a.eval x=J A2 m c2)
  {L:Nat} (hL:L=n+m) (hb:L*WZ<=140737488355328) (h63:L<=9223372036854775807)
  (hK:∀ A' c'' W' S',fG S W W'->Has (T.sl e) W' [J A' L c''] (xs++ys) S'->(∀ b∈S',b∈S∨b∈Sy∨W.heap.size<=b)->wpList P ops Vc rest (a.put o.dst (J A' L c'')) W'):wpList P ops Vc (o::rest) a W:=
 YJ hgd fun K hKK=>by
  obtain⟨A',c'',W',S',a0,a2,hF,a1⟩:=MC (P:=P) (ty:=o.type) hE h hy hd hL hb h63;exact vG s x ho hs hx a0 (hKK _ _ (hK A' c'' W' S' a2 hF a1))
end
theorem uV {nm:G} {B:N VQ} {o:D iq} (hk:fQ kd)(hn:nm.size<=9223372036854775807)(hH:Has (jY.sl 160) W [J B o.length d] o S):Has zS W [C Z kd,Q nm,J I 0 0,J B o.length d] ⟨kd,nm,[],o⟩ S:=by
 have h:=By (w:=W) (x:=⟨kd,nm,[],o⟩) I 0 [] B d S hk hn (Has.nil jB 9 W).1 hH.1;rw[Wo] at h;exact⟨h,hH.2⟩
theorem BF (hk:fQ kd):Has zS W [C Z kd,Q { data:=#[] },J I 0 0,J I 0 0] ⟨kd,{ data:=#[] },[],[]⟩ []:=uV (nm:={ data:=#[] }) (o:=[]) hk gv (Has.nil jY 160 W)
structure lp (W:V)(k gb:Nat)(A0:N VQ)(c0:Nat)(vars:D G)(A1:N VQ)(c1:Nat)(names:D G)(A2:N VQ)(c2:Nat)(ars:D Int):Prop where
 jD:W.heap[gb]?=F (U #[.pointer (F ⟨k,0,I⟩),J A0 vars.length c0,J A1 names.length c1,J A2 ars.length c2] 219 (0,0))
 pQ:nc W k A0 c0 vars A1 c1 names A2 c2 ars
 ne:gb≠k
 some_:0<vars.length
section
variable {k gb:Nat} {A0:N VQ} {c0:Nat} {vars:D G} {A1:N VQ} {c1:Nat} {names:D G} {A2:N VQ} {c2:Nat} {ars:D Int}
theorem lp.only {W W':V}(h:lp W k gb A0 c0 vars A1 c1 names A2 c2 ars)(hs:fG [k] W W'):lp W' k gb A0 c0 vars A1 c1 names A2 c2 ars:=
 ⟨(hs.block gb ((blt h.jD)) (by simpa using h.ne)).trans h.jD,h.pQ.only hs,h.ne,h.some_⟩
theorem lp.fH (h:lp W k gb A0 c0 vars A1 c1 names A2 c2 ars)(hg:fy W W'):lp W' k gb A0 c0 vars A1 c1 names A2 c2 ars:=h.only (hg.only _)
theorem zeO (hn:n<=6){m:Int}(hm:m=(n:Int))(hC:jI w W k)(hB:lp W k gb A0 c0 vars A1 c1 names A2 c2 ars) :
  VK prog 157 #[.pointer (F ⟨gb,0,I⟩),C Z m] W (rc w W k (pv n)):=by
 subst hm;obtain⟨b0,b1,b2,b3,bf,bl⟩:=jF hB.jD;go_enter func157,ntmps157;go_upto_region 1 with(fail);go_region_held3 (fun w'=>Vg w' ⟨gb,0,I⟩=F (.pointer (F ⟨k,0,I⟩))/\Vg w' ⟨gb,1,I⟩=F (J A0 vars.length c0)/\Vg w' ⟨gb,2,I⟩=F (J A1 names.length c1)/\Vg w' ⟨gb,3,I⟩=F (J A2 ars.length c2)) ((repeat' apply Vm) <;> ((repeat (first | with_reducible assumption | with_reducible refine zd ?_ _ _ | with_reducible refine zq ?_ _ | with_reducible refine zc ?_ | with_reducible refine ow ?_ _));done)) (first | (go_at_call 187;refine(zsy n hn n rfl (hC.more gF) (hB.pQ.fH gF)).mono ?_;rintro e W4 ⟨B4,d4,o4,S4,rfl,a4,a2,a1,a3,a0⟩;obtain⟨b0,b1,b2,b3,bf,bl⟩:=jF ((hB.fH gF).only a1).jD))
 all_goals go_wp2_with(fail)
 all_goals go_ret
 all_goals exact⟨B4,d4,o4,S4,rfl,a4,a2,(fy.only gF _).trans a1,a3,fun b hb=>by have:=a0 b hb;(try simp at this);omega⟩
end
def uk (x:fB):Prop:=x.fC≠0/\x.Expr.length<=7/\x.gD = []
theorem tN {g:Prop} (f:g:=by
  intro x hx
  rcases VA.1 hx with hx | hx
  ·exact h x hx
  ·rw[Vi.1 hx];exact hy):g:=f
theorem uQ (h:∀ x∈out,uk x){y:fB}(hy:uk y):∀ x∈out++[y],uk x:=by
 exact tN
theorem FX (h:∀ x∈out,uk x)(ho:∀ x∈o,uk x):∀ x∈out++o,uk x:=fun x hx=>(VA.1 hx).elim (h x) (ho x)
def cb:Nat->Nat
 | 0=>1
 | d+1=>4+3*cb d
theorem DF (d:Nat):1<=cb d:=by cases d <;> simp[cb] <;> omega
theorem DH (h:d<=2):cb d<=25:=by
 have:d=0∨d=1∨d=2:=fh;rcases this with rfl | rfl | rfl <;> decide
theorem Lb (h:0<d):cb d=4+3*cb (d-1):=by
 obtain⟨e,rfl⟩:∃ e,d=e+1:=⟨d-1,fh⟩
 rfl
theorem Mc {k1 m1 k2 m2 k3 m3:Int} {s1 s2 s3:G} (a1:fQ k1)(a2:fQ m1)(a3:s1.size<=9223372036854775807)(b1:fQ k2)(b2:fQ m2)(b3:s2.size<=9223372036854775807)(c1:fQ k3)(c2:fQ m3)(c3:s3.size<=9223372036854775807) :
  Has (jY.sl 160) (W.alloc (U #[C Z k1,C Z m1,Q s1,C Z k2,C Z m2,Q s2,C Z k3,C Z m3,Q s3] 160)) [J (F ⟨W.heap.size,0,I⟩) [iq.mk k1 m1 s1,⟨k2,m2,s2⟩,⟨k3,m3,s3⟩].length 3] [⟨k1,m1,s1⟩,⟨k2,m2,s2⟩,⟨k3,m3,s3⟩] [W.heap.size]:=
 ⟨qG (xs:=[⟨k1,m1,s1⟩,⟨k2,m2,s2⟩,⟨k3,m3,s3⟩]) (Vj W _) (show gz jY _ _ _ [] from⟨[C Z k1,C Z m1,Q s1],_,[],[],rfl,rfl,rW (uX (w:=W) (B:=0) (x:=⟨k1,m1,s1⟩) a1 a2 a3) _,⟨[C Z k2,C Z m2,Q s2],_,[],[],rfl,rfl,rW (uX (w:=W) (B:=0) (x:=⟨k2,m2,s2⟩) b1 b2 b3) _,⟨[C Z k3,C Z m3,Q s3],_,[],[],rfl,rfl,rW (uX (w:=W) (B:=0) (x:=⟨k3,m3,s3⟩) c1 c2 c3) _,⟨rfl,rfl⟩⟩⟩⟩) gm,gm⟩
def Un (w W:V)(k m:Nat)(e:Z9)(W':V):Prop:=∃ A n c out S,e=.returned (J A n c)/\n<=m/\(∀ x∈out,uk x)/\iJ zS 99 w W W' k A n c out S
theorem iJ.iK {α:Type}{T:Ty α}{t:Wl}{w W0 W:V}{k:Nat}(hC:jI w W k)(hs:fG [k] W0 W)(hk:k<W0.heap.size):iJ T t w W0 (W.alloc (U #[] t)) k (F ⟨W.heap.size,0,I⟩) 0 0 [] [W.heap.size]:=
 ⟨hC.more gG,hs.trans (fy.only gG _),Has.iK T (Vj W _),fun b hb=>by have:=hs.size;simp at hb;omega,hk,rfl⟩
theorem wB {g:Prop} (f:g:=by
  go_upto_if 24 with(go_at_call 103;refine(zh5 h1.cur 3 gv gv).mono ?_;rintro e W5 ⟨b,rfl,hC5,hS5⟩)
  have h5:=h1.call hS5 hC5
  cases b with
  | false=>
   go_wp2_with(fail)
   go_roundw
   exact⟨r-1,n7,A7,c7,out,S,io,fh,rfl,fh,HL,fk h5⟩
   exact iC
  | true=>
   go_wp2_with(first
    | (go_at_call 157;refine(zeO (n:=4) (m:=4) gv gv h5.cur (hB.only h5.only)).mono ?_;rintro e W6 ⟨B6,d6,o6,S6,rfl,hl6,hC6,hS6,hH6,hlo6⟩;have h6:=h5.call hS6 hC6)
    | (refine zJ (L:=n7+1) rfl (.tmp 25) (.tmp 29) pg (h6.fH gF).has ((uV (kd:=6) (nm:={ data:=#[] }) ⟨gv,gv⟩ gv hH6).fH gF) (fun b hb hm=>by have k1:=hlo6 b hm;have k2:=h5.has.lt b hb;omega) rfl rfl rfl (by intro j u hu;simpa[go_sem] using hu) rfl fh fh ?_;intro B7 d7 W7 S7 hon7 hH7 hS7;have h7:=(h6.fH gF).next hon7 hH7 hS7 (fun b hb=>by have k1:=hlo6 b hb;have k2:=h5.only.size;omega) (by rw[Vk,<-h6.len];rfl)))
   go_roundw
   exact⟨r-1,_,B7,d7,_,S7,io,fh,rfl,fh,fk (uQ HL.out ⟨gm,by have:=hl6;simp only[pv] at this;simpa using this,rfl⟩),fk h7⟩
   exact iC):g:=f
theorem ua {g:Prop} (f:g:=by
  go_roundw
  exact⟨r-1,_,B7,d7,_,S7,io,fh,rfl,fh,fk (uQ HL.out ⟨gm,by have:=hl6;simp only[pv] at this;simpa using this,rfl⟩),fk h7⟩
  exact iC):g:=f
theorem zsx:∀(d:Nat),d<=2->∀(n:Nat),n<=4->∀(m:Int),m=(n:Int)->∀(dd:Int),dd=(d:Int)->∀{w W:V}{k gb:Nat}{A0:N VQ}{c0:Nat}{vars:D G}{A1:N VQ}{c1:Nat}{names:D G}{A2:N VQ}{c2:Nat}{ars:D Int}(_:jI w W k)(_:lp W k gb A0 c0 vars A1 c1 names A2 c2 ars),
  VK prog 156 #[.pointer (F ⟨gb,0,I⟩),C Z m,C Z dd] W (Un w W k (n*cb d)):=by
 intro d;induction d using Nat.strongRecOn with
 | _ d ih=>
 rintro hd n hn m rfl dd rfl w W k gb A0 c0 vars A1 c1 names A2 c2 ars hC hB;have IH:=fk ih;clear ih;have ao:=DH hd;have aA:=DF d;go_enter func156,ntmps156;go_upto_region 1 with(fail);go_upto_if 999 with(fail)
 have h0:=iJ.iK (T:=zS) (t:=99) hC (fG.refl [k] W) hC.lt;generalize (W.alloc _)=Y at h0 |-;go_loopw [1,7] (fun a o wr=>∃(r n7:Nat) (A7:N VQ) (c7:Nat) (out:D fB) (S:D Nat),a=C Z r/\r<=n/\o=J A7 n7 c7/\n7+r*cb d<=n*cb d/\Hid (∀ x∈out,uk x)/\Hid (iJ zS 99 w W wr k A7 n7 c7 out S)) (fun a _ _=>(Wj a).toNat)
 case atStart=>exact⟨n,0,_,0,[],_,rfl,Vz _,rfl,fh,fk (fun x hx=>by cases hx),fk h0⟩
 clear h0;obtain⟨r,n7,A7,c7,out,S,rfl,hr,rfl,aC,HL,HG⟩:=hrel;have h1:=HG.out;have aD:n*cb d<=100:=VL (Za hn ao) gv;by_cases hlt:0<r
 ·have ac:(0:Int)<(r:Int):=fh
  have aJ:Vl Z ((r:Int)-1)=(r:Int)-1:=iw
  have aG:r*cb d=(r-1)*cb d+cb d:=by
   obtain⟨q,rfl⟩:∃ q,r=q+1:=⟨r-1,fh⟩
   rw[Nat.add_sub_cancel,Yi,Ys]
  have aF:=DF d;obtain⟨b0,b1,b2,b3,bf,bl⟩:=jF (hB.only h1.only).jD;go_upto_region 7 with(go_at_call 36;refine(pT h1.cur 9 gv gv).mono ?_;rintro e W2 ⟨x,rfl,hx,ai,aj⟩);have h1:=h1.call aj ai;clear b0 b1 b2 b3 bf bl aj ai;obtain⟨b0,b1,b2,b3,bf,bl⟩:=jF (hB.only h1.only).jD;by_cases hx4:x<4
  ·have ad:(x:Int)<4:=fh
   have aI:=hB.some_;have aH:=hB.pQ.lv;go_upto_region 8 with(fail);go_cut [9] from 34 to 50 (fun v wx=>∃ nm,v=Q nm/\nm.size<=9223372036854775807/\Hid (iJ zS 99 w W wx k A7 n7 c7 out S))
   case first=>
    go_region_law (first | (go_simp;go_at_call 36;refine(pT (h1.cur.more gF) (vars.length:Int) fh fh).mono ?_;rintro e W3 ⟨j,rfl,hj,a4,a5⟩;have h3:=(h1.fH gF).call a5 a4;obtain⟨b0,b1,b2,b3,bf,bl⟩:=jF (hB.only h3.only).jD;obtain⟨g0,o0,nm,al,aE,az,a1⟩:=yG (hB.pQ.only h3.only).v (k:=j) fh;subst al))
    all_goals go_wp2_with(fail)
    all_goals go_meet
    all_goals exact⟨nm,rfl,a1,fk (h3.fH gF)⟩
   obtain⟨nm,rfl,a1,H1⟩:=hcut;clear h1 b0 b1 b2 b3 bf bl;have h1:=H1.out
   go_wp2_with(first
     | (go_at_call 157;refine(zeO (n:=6) (m:=6) gv gv h1.cur (hB.only h1.only)).mono ?_;rintro e W6 ⟨B6,d6,o6,S6,rfl,hl6,hC6,hS6,hH6,hlo6⟩;have h6:=h1.call hS6 hC6)
     | (refine zJ (L:=n7+1) rfl (.tmp 50) (.tmp 55) pg (h6.fH gF).has ((uV (kd:=1) (nm:=nm) ⟨gv,gv⟩ a1 hH6).fH gF) (fun b hb hm=>by have k1:=hlo6 b hm;have k2:=h1.has.lt b hb;omega) rfl rfl rfl (by intro j u hu;simpa[go_sem] using hu) rfl fh fh ?_;intro B7 d7 W7 S7 hon7 hH7 hS7;have h7:=(h6.fH gF).next hon7 hH7 hS7 (fun b hb=>by have k1:=hlo6 b hb;have k2:=h1.only.size;omega) (by rw[Vk,<-h6.len];rfl)))
   exact ua
  have ad:¬ ((x:Int)<4):=fh;by_cases hx6:x<6
  ·have ae:(x:Int)<6:=fh
   go_wp2_with(first
     | (go_at_call 157;refine(zeO (n:=5) (m:=5) gv gv h1.cur (hB.only h1.only)).mono ?_;rintro e W6 ⟨B6,d6,o6,S6,rfl,hl6,hC6,hS6,hH6,hlo6⟩;have h6:=h1.call hS6 hC6)
     | (refine zJ (L:=n7+1) rfl (.tmp 60) (.tmp 64) pg (h6.fH gF).has ((uV (kd:=2) (nm:={ data:=#[] }) ⟨gv,gv⟩ gv hH6).fH gF) (fun b hb hm=>by have k1:=hlo6 b hm;have k2:=h1.has.lt b hb;omega) rfl rfl rfl (by intro j u hu;simpa[go_sem] using hu) rfl fh fh ?_;intro B7 d7 W7 S7 hon7 hH7 hS7;have h7:=(h6.fH gF).next hon7 hH7 hS7 (fun b hb=>by have k1:=hlo6 b hb;have k2:=h1.only.size;omega) (by rw[Vk,<-h6.len];rfl)))
   exact ua
  have ae:¬ ((x:Int)<6):=fh;by_cases hif:x=6/\0<d
  ·obtain⟨a8,a9⟩:=hif
   have af:((x:Int) == 6)=H:=by rw[a8];rfl
   have aa:(0:Int)<(d:Int):=fh;have a6:d-1<d:=fh;have a3:d-1<=2:=fh;have aw:Vl Z ((d:Int)-1)=(d:Int)-1:=iw;have ap:=Lb a9;have aq:=DF (d-1)
   go_upto_region 14 with(first
     | (go_at_call 157;refine(zeO (n:=4) (m:=4) gv gv h1.cur (hB.only h1.only)).mono ?_;rintro e W6 ⟨B6,d6,o6,S6,rfl,hl6,hC6,hS6,hH6,hlo6⟩;have h6:=h1.call hS6 hC6)
     | (refine zJ (L:=n7+1) rfl (.tmp 73) (.tmp 77) pg (h6.fH gF).has ((uV (kd:=3) (nm:={ data:=#[] }) ⟨gv,gv⟩ gv hH6).fH gF) (fun b hb hm=>by have k1:=hlo6 b hm;have k2:=h1.has.lt b hb;omega) rfl rfl rfl (by intro j u hu;simpa[go_sem] using hu) rfl fh fh ?_;intro B7 d7 W7 S7 hon7 hH7 hS7;have h2:=(h6.fH gF).next hon7 hH7 hS7 (fun b hb=>by have k1:=hlo6 b hb;have k2:=h1.only.size;omega) (by rw[Vk,<-h6.len];rfl)))
   have L2:=uQ HL.out (y:=⟨3,{ data:=#[] },[],o6⟩) ⟨gm,by have:=hl6;simp only[pv] at this;simpa using this,rfl⟩;clear b0 b1 b2 b3 bf bl;obtain⟨b0,b1,b2,b3,bf,bl⟩:=jF (hB.only h2.only).jD;have a7:∀ q,q<=2->q*cb (d-1)<=2*cb (d-1):=fun q hq=>Xf _ hq;have an:=DH a3
   go_upto_region 15 with(first
     | (go_at_call 36;refine(pT h2.cur 2 gv gv).mono ?_;rintro e W3 ⟨y,rfl,hy,a4,a5⟩;have h3:=h2.call a5 a4;have ax:Vl Z (1+(y:Int))=1+y:=iw)
     | (go_at_call 156;refine(IH.out (d-1) a6 a3 (1+y) fh _ fh _ fh h3.cur (hB.only h3.only)).mono ?_;rintro e W6 ⟨B6,n6,d6,o6,S6,rfl,aB,ar,h6⟩;have ah:=h3.call h6.only h6.cur;have ay:=a7 (1+y) fh)
     | (refine Ck (L:=n7+1+n6) rfl (.tmp 79) (.tmp 89) pg ah.has h6.has (fun b hb hm=>by have k1:=h6.lo b hm;have k2:=h3.has.lt b hb;omega) rfl rfl rfl rfl fh fh ?_;intro B7 d7 W7 S7 hon7 hH7 hS7;have h4:=ah.next hon7 hH7 hS7 (fun b hb=>by have k1:=h6.lo b hb;have k2:=h3.only.size;omega) (by rw[Vk,<-ah.len,<-h6.len])))
   have L4:=FX L2 ar;clear b0 b1 b2 b3 bf bl;obtain⟨b0,b1,b2,b3,bf,bl⟩:=jF (hB.only h4.only).jD;have av:n7+1+n6<=n7+1+2*cb (d-1):=fh;go_upto_if 95 with(go_at_call 103;refine(zh5 h4.cur 2 gv gv).mono ?_;rintro e W5 ⟨b,rfl,hC5,hS5⟩)
   have h5:=h4.call hS5 hC5;cases b with
   | false=>
    go_wp2_with(first
     | (refine zJ (L:=n7+1+n6+1) rfl (.tmp 106) (.tmp 108) pg (Sy:=[]) (h5.fH gF).has (BF (kd:=7) ⟨gv,gv⟩) (fun b hb hm=>by cases hm) rfl rfl rfl (by intro j u hu;simpa[go_sem] using hu) rfl fh fh ?_;intro B7 d7 W7 S7 hon7 hH7 hS7;have h9:=(h5.fH gF).next hon7 hH7 hS7 (fun b hb=>by cases hb) (by rw[Vk,<-h5.len];rfl)))
    go_roundw;exact⟨r-1,_,B7,d7,_,S7,io,fh,rfl,fh,fk (uQ L4 ⟨gm,gm,rfl⟩),fk h9⟩;exact iC
   | true=>
    go_upto_region 17 with(first
     | (refine zJ (L:=n7+1+n6+1) rfl (.tmp 96) (.tmp 98) pg (Sy:=[]) (h5.fH gF).has (BF (kd:=4) ⟨gv,gv⟩) (fun b hb hm=>by cases hm) rfl rfl rfl (by intro j u hu;simpa[go_sem] using hu) rfl fh fh ?_;intro B7 d7 W7 S7 hon7 hH7 hS7;have h7:=(h5.fH gF).next hon7 hH7 hS7 (fun b hb=>by cases hb) (by rw[Vk,<-h5.len];rfl)))
    go_upto_region 18 with(first
     | (go_at_call 156;refine(IH.out (d-1) a6 a3 1 fh _ fh _ fh h7.cur (hB.only h7.only)).mono ?_;rintro e W8 ⟨B8,n8,d8,o8,S8,rfl,au,ab,h8⟩;have a2:=h7.call h8.only h8.cur;have am:=a7 1 fh)
     | (refine Ck (L:=n7+1+n6+1+n8) rfl (.tmp 100) (.tmp 104) pg a2.has h8.has (fun b hb hm=>by have k1:=h8.lo b hm;have k2:=h7.has.lt b hb;omega) rfl rfl rfl rfl fh fh ?_;intro B7 d7 W7 S7 hon7 hH7 hS7;have h9:=a2.next hon7 hH7 hS7 (fun b hb=>by have k1:=h8.lo b hb;have k2:=h7.only.size;omega) (by rw[Vk,<-a2.len,<-h8.len])))
    have L9:=FX (uQ L4 (y:=⟨4,{ data:=#[] },[],[]⟩) ⟨gm,gm,rfl⟩) ab
    go_wp2_with(first
     | (refine zJ (L:=n7+1+n6+1+n8+1) rfl (.tmp 106) (.tmp 108) pg (Sy:=[]) (h9.fH gF).has (BF (kd:=7) ⟨gv,gv⟩) (fun b hb hm=>by cases hm) rfl rfl rfl (by intro j u hu;simpa[go_sem] using hu) rfl fh fh ?_;intro B7 d7 W7 S7 hon7 hH7 hS7;have hz:=(h9.fH gF).next hon7 hH7 hS7 (fun b hb=>by cases hb) (by rw[Vk,<-h9.len];rfl)))
    go_roundw;exact⟨r-1,_,B7,d7,_,S7,io,fh,rfl,fh,fk (uQ L9 ⟨gm,gm,rfl⟩),fk hz⟩;exact iC
  by_cases hlp:x=7/\0<d
  ·obtain⟨a8,a9⟩:=hlp
   have af:((x:Int) == 6)=M:=by rw[a8];rfl
   have ag:((x:Int) == 7)=H:=by rw[a8];rfl
   have aa:(0:Int)<(d:Int):=fh;have a6:d-1<d:=fh;have a3:d-1<=2:=fh;have aw:Vl Z ((d:Int)-1)=(d:Int)-1:=iw;have ap:=Lb a9;have aq:=DF (d-1);have a7:∀ q,q<=2->q*cb (d-1)<=2*cb (d-1):=fun q hq=>Xf _ hq;have an:=DH a3;have a0:∀{z:Int},z=0∨z=1∨z=2∨z=5->fQ z:=fun h=>by rcases h with rfl | rfl | rfl | rfl <;> exact⟨gv,gv⟩
   go_upto_region 21 with(first
     | (go_at_call 36;refine(pT h1.cur 3 gv gv).mono ?_;rintro e W3 ⟨y,rfl,hy,a4,a5⟩;have h3:=h1.call a5 a4;have ax:Vl Z (1+(y:Int))=1+y:=iw)
     | (refine zJ (L:=n7+1) rfl (.tmp 117) (.tmp 129) pg (h3.fH gF).has ((uV (kd:=5) (nm:={ data:=#[] }) (o:=[⟨5,0,{ data:=#[] }⟩,⟨1,0,{ data:=#[105] }⟩,⟨0,(1+(y:Int)),{ data:=#[] }⟩]) ⟨gv,gv⟩ gv (Mc (k1:=5) (m1:=0) (s1:={ data:=#[] }) (k2:=1) (m2:=0) (s2:={ data:=#[105] }) (k3:=0) (m3:=(1+(y:Int))) (s3:={ data:=#[] }) (a0 gv) (a0 gv) gv (a0 gv) (a0 gv) gv (a0 gv) (by exact⟨fh,fh⟩) gv)).fH gF) (fun b hb hm=>by have k1:=h3.has.lt b hb;simp only[Vi] at hm;omega) rfl rfl rfl (by intro j u hu;simpa[go_sem] using hu) rfl fh fh ?_;intro B7 d7 W7 S7 hon7 hH7 hS7;have h5:=(h3.fH gF).next hon7 hH7 hS7 (fun b hb=>by simp only[Vi] at hb;have k2:=h3.only.size;omega) (by rw[Vk,<-h3.len];rfl)))
   have L5:=uQ HL.out (y:=⟨5,{ data:=#[] },[],[⟨5,0,{ data:=#[] }⟩,⟨1,0,{ data:=#[105] }⟩,⟨0,1+(y:Int),{ data:=#[] }⟩]⟩) ⟨gm,gm,rfl⟩
   go_upto_region 22 with(first
     | (go_at_call 156;refine(IH.out (d-1) a6 a3 1 fh _ fh _ fh h5.cur (hB.only h5.only)).mono ?_;rintro e W8 ⟨B8,n8,d8,o8,S8,rfl,au,ab,h8⟩;have a2:=h5.call h8.only h8.cur;have am:=a7 1 fh)
     | (refine Ck (L:=n7+1+n8) rfl (.tmp 131) (.tmp 135) pg a2.has h8.has (fun b hb hm=>by have k1:=h8.lo b hm;have k2:=h5.has.lt b hb;omega) rfl rfl rfl rfl fh fh ?_;intro B7 d7 W7 S7 hon7 hH7 hS7;have h9:=a2.next hon7 hH7 hS7 (fun b hb=>by have k1:=h8.lo b hb;have k2:=h5.only.size;omega) (by rw[Vk,<-a2.len,<-h8.len])))
   have L9:=FX L5 ab
   go_upto_region 23 with(first
     | (refine zJ (L:=n7+1+n8+1) rfl (.tmp 137) (.tmp 143) pg (h9.fH gF).has ((uV (kd:=1) (nm:={ data:=#[105] }) (o:=[⟨2,0,{ data:=#[] }⟩,⟨1,0,{ data:=#[105] }⟩,⟨0,1,{ data:=#[] }⟩]) ⟨gv,gv⟩ gv (Mc (k1:=2) (m1:=0) (s1:={ data:=#[] }) (k2:=1) (m2:=0) (s2:={ data:=#[105] }) (k3:=0) (m3:=1) (s3:={ data:=#[] }) (a0 gv) (a0 gv) gv (a0 gv) (a0 gv) gv (a0 gv) (by exact⟨fh,fh⟩) gv)).fH gF) (fun b hb hm=>by have k1:=h9.has.lt b hb;simp only[Vi] at hm;omega) rfl rfl rfl (by intro j u hu;simpa[go_sem] using hu) rfl fh fh ?_;intro B7 d7 W7 S7 hon7 hH7 hS7;have hy:=(h9.fH gF).next hon7 hH7 hS7 (fun b hb=>by simp only[Vi] at hb;have k2:=h9.only.size;omega) (by rw[Vk,<-h9.len];rfl)))
   have ak:=uQ L9 (y:=⟨1,{ data:=#[105] },[],[⟨2,0,{ data:=#[] }⟩,⟨1,0,{ data:=#[105] }⟩,⟨0,1,{ data:=#[] }⟩]⟩) ⟨gm,gm,rfl⟩
   go_wp2_with(first
     | (refine zJ (L:=n7+1+n8+1+1) rfl (.tmp 145) (.tmp 147) pg (Sy:=[]) (hy.fH gF).has (BF (kd:=7) ⟨gv,gv⟩) (fun b hb hm=>by cases hm) rfl rfl rfl (by intro j u hu;simpa[go_sem] using hu) rfl fh fh ?_;intro B7 d7 W7 S7 hon7 hH7 hS7;have hz:=(hy.fH gF).next hon7 hH7 hS7 (fun b hb=>by cases hb) (by rw[Vk,<-hy.len];rfl)))
   go_roundw;exact⟨r-1,_,B7,d7,_,S7,io,fh,rfl,fh,fk (uQ ak ⟨gm,gm,rfl⟩),fk hz⟩;exact iC
  by_cases hx66:x=6
  ·have aa:¬ ((0:Int)<(d:Int)):=fh
   have af:((x:Int) == 6)=H:=by rw[hx66];rfl
   have ag:((x:Int) == 7)=M:=by rw[hx66];rfl
   exact wB
  have af:((x:Int) == 6)=M:=by simp;omega
  by_cases hx77:x=7
  ·have aa:¬ ((0:Int)<(d:Int)):=fh
   have ag:((x:Int) == 7)=H:=by rw[hx77];rfl
   exact wB
  have ag:((x:Int) == 7)=M:=by simp;omega
  go_upto_if 24 with(go_at_call 103;refine(zh5 h1.cur 3 gv gv).mono ?_;rintro e W5 ⟨b,rfl,hC5,hS5⟩)
  have h5:=h1.call hS5 hC5;cases b with
  | false=>
   go_wp2_with(fail);go_roundw;exact⟨r-1,n7,A7,c7,out,S,io,fh,rfl,fh,HL,fk h5⟩;exact iC
  | true=>
   go_wp2_with(first
     | (go_at_call 157;refine(zeO (n:=4) (m:=4) gv gv h5.cur (hB.only h5.only)).mono ?_;rintro e W6 ⟨B6,d6,o6,S6,rfl,hl6,hC6,hS6,hH6,hlo6⟩;have h6:=h5.call hS6 hC6)
     | (refine zJ (L:=n7+1) rfl (.tmp 25) (.tmp 29) pg (h6.fH gF).has ((uV (kd:=6) (nm:={ data:=#[] }) ⟨gv,gv⟩ gv hH6).fH gF) (fun b hb hm=>by have k1:=hlo6 b hm;have k2:=h5.has.lt b hb;omega) rfl rfl rfl (by intro j u hu;simpa[go_sem] using hu) rfl fh fh ?_;intro B7 d7 W7 S7 hon7 hH7 hS7;have h7:=(h6.fH gF).next hon7 hH7 hS7 (fun b hb=>by have k1:=hlo6 b hb;have k2:=h5.only.size;omega) (by rw[Vk,<-h6.len];rfl)))
   exact ua
 ·obtain rfl:r=0:=fh
  have ac:¬ ((0:Int)<((0:Nat):Int)):=fh;go_wp2_with(fail);go_ret;exact⟨A7,n7,c7,out,S,rfl,fh,HL.out,h1⟩
theorem uT {α:Type} {T:Ty α} (hf:lL T){e:Wl}{W W':V}{L:D Nat}{A:N VQ}{n c:Nat}{xs:D α}(h:(T.sl e).R W W.heap.size [J A n c] xs)(hs:fG L W W')(hk:∀ ad,A=F ad->ad.block∉L):(T.sl e).R W' W'.heap.size [J A n c] xs:=by
 exact wM
theorem C4 {α:Type} {T:Ty α} (h1s:T.size=1){W:V}{B:Nat}{g off:Nat}{n c:Nat}{xs:D α}(h:(T.sl e).R W B [J (F ⟨g,off,I⟩) n c] xs){lo m:Nat}(hm:lo+m<=xs.length):(T.sl e).R W B [J (F ⟨g,off+lo,I⟩) m (c-lo)] ((xs.drop lo).take m):=by
 obtain⟨A',c',h1,h2,h3,h4,h5⟩:=h;injection h1 with h1 h1'
 injection h1 with hA hn hc
 subst hA hc hn;have a0:((xs.drop lo).take m).length=m:=by rw[WK,WL];omega
 refine⟨F ⟨g,off+lo,I⟩,c-lo,by rw[a0],by rw[a0];omega,by omega,(fun h=>by simp at h),fun hp=>?_⟩;rw[a0] at hp;obtain⟨g',a1,he,hg,h6⟩:=h5 (by omega);injection he with he
 injection he with he1 he2
 subst he1 he2;refine⟨_,_,rfl,hg,fun i x hx=>?_⟩;have hi:i<m:=by have:=(Vh.1 hx).1;rw[a0] at this;exact this
 rw[List.getElem?_take_of_lt hi,Xi] at hx;obtain⟨ec,hR,hc⟩:=h6 (lo+i) x hx;refine⟨ec,hR,fun j u hu=>?_⟩;have:=hc j u hu;rw[h1s,Xo] at this |-;rw[<-this];congr 2;omega
structure jK (w Y W:V)(k gb:Nat)(A0:N VQ)(c0:Nat)(vars:D G)(A1:N VQ)(c1:Nat)(names:D G)(A2:N VQ)(c2:Nat)(ars:D Int)(A:N VQ)(n c:Nat)(out:D fB)(S:D Nat)(m:Nat):Prop where
 st:iJ zS 99 w Y W k A n c out S
 bx:lp W k gb A0 c0 vars A1 c1 names A2 c2 ars
 le:m<=W.heap.size
 lb:gb<m
 l0:∀ ad,A0=F ad->ad.block<m
 l1:∀ ad,A1=F ad->ad.block<m
 l2:∀ ad,A2=F ad->ad.block<m
 db:gb∉S
 d0:∀ ad,A0=F ad->ad.block∉S
 d1:∀ ad,A1=F ad->ad.block∉S
 d2:∀ ad,A2=F ad->ad.block∉S
section
variable {w Y W W':V} {k gb:Nat} {A0:N VQ} {c0:Nat} {vars:D G} {A1:N VQ} {c1:Nat} {names:D G} {A2:N VQ} {c2:Nat} {ars:D Int} {A:N VQ} {n c:Nat} {out:D fB} {S:D Nat} {m:Nat}
theorem lp.on (h:lp W k gb A0 c0 vars A1 c1 names A2 c2 ars)(hs:fG L W W')(hb:gb∉L)(h0:∀ ad,A0=F ad->ad.block∉L)(h1:∀ ad,A1=F ad->ad.block∉L)(h2:∀ ad,A2=F ad->ad.block∉L):lp W' k gb A0 c0 vars A1 c1 names A2 c2 ars:=
 ⟨(hs.block gb ((blt h.jD)) hb).trans h.jD,⟨uT ng h.pQ.v hs h0,uT ng h.pQ.n hs h1,uT zI h.pQ.a hs h2,h.pQ.kv,h.pQ.kn,h.pQ.ka,h.pQ.len,h.pQ.ar,h.pQ.lv,h.pQ.ln⟩,h.ne,h.some_⟩
theorem jK.fH (h:jK w Y W k gb A0 c0 vars A1 c1 names A2 c2 ars A n c out S m)(hg:fy W W'):jK w Y W' k gb A0 c0 vars A1 c1 names A2 c2 ars A n c out S m:=
 ⟨h.st.fH hg,h.bx.fH hg,VL h.le hg.size,h.lb,h.l0,h.l1,h.l2,h.db,h.d0,h.d1,h.d2⟩
theorem jK.call (h:jK w Y W k gb A0 c0 vars A1 c1 names A2 c2 ars A n c out S m)(hs:fG [k] W W')(hC:jI w W' k):jK w Y W' k gb A0 c0 vars A1 c1 names A2 c2 ars A n c out S m:=
 ⟨h.st.call hs hC,h.bx.only hs,VL h.le hs.size,h.lb,h.l0,h.l1,h.l2,h.db,h.d0,h.d1,h.d2⟩
theorem jK.next {A':N VQ}{c' L:Nat}{out':D fB}{S' Sy:D Nat}(h:jK w Y W k gb A0 c0 vars A1 c1 names A2 c2 ars A n c out S m)(hon:fG S W W')(hH:Has (zS.sl 99) W' [J A' L c'] out' S')(hS:∀ b∈S',b∈S∨b∈Sy∨W.heap.size<=b)(hSy:∀ b∈Sy,m<=b/\Y.heap.size<=b)(hL:L=out'.length):jK w Y W' k gb A0 c0 vars A1 c1 names A2 c2 ars A' L c' out' S' m:=by
 have a0:∀ q,q<m->q∉S->q∉S':=fun q hq hn hm=>by
  rcases hS q hm with h1 | h1 | h1
  ·exact hn h1
  ·have:=(hSy q h1).1;omega
  ·have:=h.le;omega
 exact⟨h.st.next hon hH hS (fun b hb=>(hSy b hb).2) hL,h.bx.on hon h.db h.d0 h.d1 h.d2,VL h.le hon.size,h.lb,h.l0,h.l1,h.l2,a0 _ h.lb h.db,fun ad e=>a0 _ (h.l0 ad e) (h.d0 ad e),fun ad e=>a0 _ (h.l1 ad e) (h.d1 ad e),fun ad e=>a0 _ (h.l2 ad e) (h.d2 ad e)⟩
end
def uM (x:fB):Prop:=x.Expr.length<=7/\x.gD.length<=4
theorem FD (h:∀ x∈out,uM x){y:fB}(hy:uM y):∀ x∈out++[y],uM x:=by
 exact tN
theorem Ue (h:∀ x∈out,uM x)(ho:∀ x∈o,uk x):∀ x∈out++o,uM x:=fun x hx=>(VA.1 hx).elim (h x) (fun hm=>⟨(ho x hm).2.1,by rw[(ho x hm).2.2];decide⟩)
def qX (l:D fB):Nat:=(l.filter fun x=>decide (x.fC=0)).length
theorem C7 (a b:D fB):qX (a++b)=qX a+qX b:=by unfold qX;rw[Zc,Vk]
theorem Qb (h:∀ x∈o,uk x):qX o=0:=by
 unfold qX;rw[XT,Ym];intro x hx;simpa using(h x hx).1
theorem J1:∀(l:D fB)(i:Nat),(lJ l i).length=qX l
 | [],_=>rfl
 | x::r,i=>by
  unfold lJ;have ih:=J1 r (i+1);by_cases h:x.fC=0
  ·rw[Vs h];simp[qX,h] at ih |-;exact ih
  ·rw[Vo h];simp[qX,h] at ih |-;exact ih
def Uq (w W:V)(k:Nat)(e:Z9)(W':V):Prop:=∃ A n c out S,e=.returned (J A n c)/\n<=500/\(∀ x∈out,uM x)/\qX out<=4/\iJ zS 99 w W W' k A n c out S
def vV:D G:=[{ data:=#[109,97,105,110] },{ data:=#[102] },{ data:=#[103,103] },{ data:=#[104] }]
def uH:D Int:=[0,1,2,1]
theorem Ji {w:V}:∀{xs:D G},(∀ x∈xs,x.size<=9223372036854775807)->gz jB w (xs.map Q) xs []
 | [],_=>⟨rfl,rfl⟩
 | x::xs,h=>⟨[Q x],xs.map Q,[],[],rfl,rfl,⟨rfl,h x WW,rfl⟩,Ji fun y hy=>h y (WH _ hy)⟩
theorem BR {cs:Array Value} {g:Nat} (xs:D G)(hcs:cs.toList=xs.map Q)(hn:n=xs.length)(hg:g=W.heap.size)(hb:∀ x∈xs,x.size<=9223372036854775807)(hl:xs.length<=1000):(jB.sl e).R (W.alloc (U cs e)) (W.alloc (U cs e)).heap.size [J (F ⟨g,0,I⟩) n n] xs:=by
 subst hn hg
 have h:(jB.sl e).O (W.alloc (U cs e)) [J (F ⟨W.heap.size,0,I⟩) xs.length xs.length] xs (W.heap.size::[]):=
  qG (Vj W _) (by rw[hcs];exact Ji hb) fh
 exact Ty.read _ h
theorem Ds:∀ a∈uH,fQ a/\0<=a/\a<=2:=by
 intro a ha;have:a=0∨a=1∨a=2∨a=1:=by simpa[uH] using ha
 rcases this with rfl | rfl | rfl | rfl <;> exact⟨⟨gv,gv⟩,gv,gv⟩
theorem KW {α:Type} {T:Ty α} (h1s:T.size=1){W:V}{B g kk nn:Nat}{xs:D α}(h:(T.sl e).R W B [J (F ⟨g,0,I⟩) 4 4] xs)(hx:xs.length=4)(h1:kk+1<=nn)(h2:nn<=4) :
  (T.sl e).R W B [J (if kk=3 then F ⟨g,0,I⟩ else F ⟨g,kk+1,I⟩) (nn-(kk+1)) (3-kk)] ((xs.drop (kk+1)).take (nn-(kk+1))):=by
 by_cases hk:kk=3
 ·subst hk
  rw[Vs rfl,show nn-(3+1)=0 from fh,Xk];exact⟨_,_,rfl,Vu _,gv,(fun h=>by simp at h),fun hp=>absurd hp (Yp 0)⟩
 ·rw[Vo hk]
  have:=C4 (lo:=kk+1) (m:=nn-(kk+1)) h1s h fh;rw[VJ,show 4-(kk+1)=3-kk from fh] at this;exact this
theorem KO {α:Type} {kk nn:Nat} {xs:D α} (hx:xs.length=4)(h1:kk+1<=nn)(h2:nn<=4):((xs.drop (kk+1)).take (nn-(kk+1))).length=nn-(kk+1):=by
 rw[WK,WL];omega
theorem RO {α:Type} {T:Ty α} {xs:D α} (h:Has (T.sl e) W [J A n c] xs S):∀ ad,A=F ad->ad.block∈S:=by
 obtain⟨⟨A',c',a0,S',h1,_,_,rfl⟩,_⟩:=h;injection h1 with h1 _
 injection h1 with hA _ _
 subst hA;rintro ad rfl;simp[lT]
theorem lp.mk' {n0:Nat} {n1:Nat} {names:D G} {n2:Nat} (hb:W.heap[gb]?=F (U #[.pointer (F ⟨k,0,I⟩),J A0 n0 c0,J A1 n1 c1,J A2 n2 c2] 219 (0,0)))
  (e0:n0=vars.length) (e1:n1=names.length) (e2:n2=ars.length) (hv:(jB.sl 9).R W W.heap.size [J A0 n0 c0] vars) (hn:(jB.sl 9).R W W.heap.size [J A1 n1 c1] names) (ha:(zv.sl 3).R W W.heap.size [J A2 n2 c2] ars)
  (kv:∀ ad,A0=F ad->ad.block≠k) (kn:∀ ad,A1=F ad->ad.block≠k) (ka:∀ ad,A2=F ad->ad.block≠k) (har:∀ a∈ars,0<=a/\a<=2) (h12:n1=n2) (lv:n0<=1000) (ln:n1<=1000) (ne:gb≠k) (h0:0<n0):lp W k gb A0 c0 vars A1 c1 names A2 c2 ars:=by
 subst e0 e1 e2;exact⟨hb,⟨hv,hn,ha,kv,kn,ka,h12,har,lv,ln⟩,ne,h0⟩
theorem iJ.over {α:Type} {T:Ty α} {t:Wl} {W0:V} {out:D α} (h:iJ T t w W0 W k A n c out S)(hon:fG L W W')(hk:k∉L)(hL:∀ b∈L,b∉S/\W0.heap.size<=b):iJ T t w W0 W' k A n c out S:=
 ⟨h.cur.only hon hk (fun b hb=>by have:=(hL b hb).2;have:=h.yj;have:=h.cur.lo;omega),h.only.then hon (fun x hx=>.inr (hL x hx).2),h.has.gu hon (fun b hb hm=>(hL b hm).1 hb),h.lo,h.yj,h.len⟩
theorem jK.set {Y:V} {names:D G} {m:Nat} (h:jK w Y W k gb A0 c0 vars A1 c1 names A2 c2 ars A n c out S m)
  {B1:N VQ} {n1 d1:Nat} {names':D G} {B2:N VQ} {n2 d2:Nat} {ars':D Int} (hn:(jB.sl 9).R W W.heap.size [J B1 n1 d1] names') (ha:(zv.sl 3).R W W.heap.size [J B2 n2 d2] ars') (e1:n1=names'.length) (e2:n2=ars'.length)
  (b1:∀ ad,B1=F ad->ad.block<m/\ad.block≠k/\ad.block∉S/\ad.block≠gb) (b2:∀ ad,B2=F ad->ad.block<m/\ad.block≠k/\ad.block∉S/\ad.block≠gb) (h12:n1=n2) (har:∀ a∈ars',0<=a/\a<=2) (ln:n1<=1000) (hv:∀ ad,A0=F ad->ad.block≠gb) (hY:Y.heap.size<=gb) :
  jK w Y ((W.setCell ⟨gb,2,I⟩ (J B1 n1 d1)).setCell ⟨gb,3,I⟩ (J B2 n2 d2)) k gb A0 c0 vars B1 d1 names' B2 d2 ars' A n c out S m:=by
 have a0:fG [gb] W ((W.setCell ⟨gb,2,I⟩ (J B1 n1 d1)).setCell ⟨gb,3,I⟩ (J B2 n2 d2)):=((fG.refl [gb] W).setCell gm _).setCell gm _;have hb:=py (py h.bx.jD 2 (J B1 n1 d1)) 3 (J B2 n2 d2);have hx:=h.bx
 exact⟨h.st.over a0 (by simpa using hx.ne.symm) (fun b hm=>by simp only[Vi] at hm;subst hm;exact⟨h.db,hY⟩),
  lp.mk' hb rfl e1 e2 (uT ng hx.pQ.v a0 (fun ad e=>by simpa using hv ad e)) (uT ng hn a0 (fun ad e=>by simpa using(b1 ad e).2.2.2)) (uT zI ha a0 (fun ad e=>by simpa using(b2 ad e).2.2.2)) hx.pQ.kv (fun ad e=>(b1 ad e).2.1) (fun ad e=>(b2 ad e).2.1) har h12 hx.pQ.lv ln hx.ne hx.some_,
  VL h.le a0.size,h.lb,h.l0,fun ad e=>(b1 ad e).1,fun ad e=>(b2 ad e).1,h.db,h.d0,fun ad e=>(b1 ad e).2.2.1,fun ad e=>(b2 ad e).2.2.1⟩
theorem zvA (hC:jI w W k):VK prog 101 #[.pointer (F ⟨k,0,I⟩)] W (Uq w W k):=by
 go_enter func101,ntmps101;go_upto_region 3 with(fail);have aH:fy W ((W.alloc (U #[Q { data:=#[109,97,105,110] },Q { data:=#[102] },Q { data:=#[103,103] },Q { data:=#[104] }] 9)).alloc (U #[C Z 0,C Z 1,C Z 2,C Z 1] 3)):=gG
 have ai:(jB.sl 9).R ((W.alloc (U #[Q { data:=#[109,97,105,110] },Q { data:=#[102] },Q { data:=#[103,103] },Q { data:=#[104] }] 9)).alloc (U #[C Z 0,C Z 1,C Z 2,C Z 1] 3)) ((W.alloc (U #[Q { data:=#[109,97,105,110] },Q { data:=#[102] },Q { data:=#[103,103] },Q { data:=#[104] }] 9)).alloc (U #[C Z 0,C Z 1,C Z 2,C Z 1] 3)).heap.size [J (F ⟨W.heap.size,0,I⟩) 4 4] vV:=by
  have h:=BR (W:=W) (e:=9) (cs:=#[Q { data:=#[109,97,105,110] },Q { data:=#[102] },Q { data:=#[103,103] },Q { data:=#[104] }]) (n:=4) (g:=W.heap.size) vV rfl rfl rfl gv gv;exact Ty.up _ h gG
 have ao:(zv.sl 3).R ((W.alloc (U #[Q { data:=#[109,97,105,110] },Q { data:=#[102] },Q { data:=#[103,103] },Q { data:=#[104] }] 9)).alloc (U #[C Z 0,C Z 1,C Z 2,C Z 1] 3)) ((W.alloc (U #[Q { data:=#[109,97,105,110] },Q { data:=#[102] },Q { data:=#[103,103] },Q { data:=#[104] }] 9)).alloc (U #[C Z 0,C Z 1,C Z 2,C Z 1] 3)).heap.size [J (F ⟨W.heap.size+1,0,I⟩) 4 4] uH:=FW uH rfl rfl gm (fun a ha=>(Ds a ha).1) gv;have ay:((W.alloc (U #[Q { data:=#[109,97,105,110] },Q { data:=#[102] },Q { data:=#[103,103] },Q { data:=#[104] }] 9)).alloc (U #[C Z 0,C Z 1,C Z 2,C Z 1] 3)).heap.size=W.heap.size+2:=gm;generalize ((W.alloc _).alloc _)=Y at aH ai ao ay |-;obtain⟨gn,aJ⟩:∃ g,W.heap.size=g:=⟨_,rfl⟩
 have bV:=hC.lt;have bh:=hC.more aH;have bg:=fk aH;have bv:=fk aJ;rw[aJ] at ai ao ay bV |-;clear aJ aH;go_upto_region 5 with(go_at_call 36;refine(pT bh 4 gv gv).mono ?_;rintro e W1 ⟨n0,rfl,c0,az,aD⟩;have c4:Vl Z (1+(n0:Int))=1+n0:=iw);go_upto_if 999 with(fail)
 have h0:=iJ.iK (T:=zS) (t:=99) az aD bh.lt;generalize (W1.alloc _)=Y1 at h0 |-;obtain⟨nn,bs⟩:∃ nn:Nat,(nn:Int)=1+n0:=⟨1+n0,fh⟩
 rw[<-bs];have a8:nn<=4:=fh;clear az aD bs c4 c0;go_loopw [6,7] (fun o i wr=>∃(kk n6:Nat) (A6:N VQ) (c6:Nat) (out:D fB) (S:D Nat),o=J A6 n6 c6/\i=C Z kk/\kk<=nn/\n6<=kk*103/\qX out<=kk/\Hid (∀ x∈out,uM x)/\Hid (iJ zS 99 w Y wr k A6 n6 c6 out S)) (fun _ i _=>nn-(Wj i).toNat)
 case atStart=>exact⟨0,0,_,0,[],_,rfl,rfl,Vu _,Vu _,Vu _,fk (fun x hx=>by cases hx),fk h0⟩
 clear h0;obtain⟨kk,n6,A6,c6,out,S,rfl,rfl,ck,cm,ch,HL,HG⟩:=hrel;have h1:=HG.out;by_cases hlt:kk<nn
 ·have bd:(kk:Int)<(nn:Int):=fh
  have ct:Vl Z ((kk:Int)+1)=(kk:Int)+1:=iw;have aK:=tm ng ai h1.only (fun ad e=>by injection e with e;subst e;simp only;omega);have aq:=tm zI ao h1.only (fun ad e=>by injection e with e;subst e;simp only;omega);obtain⟨g2,o2,a,aO,bQ,b3,_,_⟩:=ma aq (k:=kk) (by simp[uH];omega);injection aO with aO
  injection aO with e1 e2
  subst e1 e2;obtain⟨cf,bN,bO⟩:=Ds a (Vx bQ);obtain⟨av,rfl⟩:=VI bN;have bY:(kk:Int)<4:=fh;rw[VJ] at b3;have bR:(av:Int)<=2:=bO;have b4:(wr.alloc (U #[Q { data:=#[120] },Q { data:=#[121] }] 9)).cell? ⟨gn+1,kk,I⟩=F (C Z (av:Int)):=zq b3 _;go_upto_region 9 with(fail);have bu:=BR (W:=wr) (e:=9) (cs:=#[Q { data:=#[120] },Q { data:=#[121] }]) (n:=2) (g:=wr.heap.size) [{ data:=#[120] },{ data:=#[121] }] rfl rfl rfl gv gv;have a0:=C4 (lo:=0) (m:=av) rfl bu (by simp;omega);rw[WQ,Wk,Nat.sub_zero] at a0;have h2:=h1.fH (show fy wr (wr.alloc (U #[Q { data:=#[120] },Q { data:=#[121] }] 9)) from gG);have a5:(wr.alloc (U #[Q { data:=#[120] },Q { data:=#[121] }] 9)).heap.size=wr.heap.size+1:=VH _ _;generalize (wr.alloc _)=Vb at a0 h2 a5 |-;obtain⟨gx,bT⟩:∃ g,wr.heap.size=g:=⟨_,rfl⟩
  rw[bT] at a0 a5 |-;obtain⟨a1,a6,bz⟩:∃ a1:D G,a1.length=av/\a1=List.take av [{ data:=#[120] },{ data:=#[121] }]:=⟨_,by simp;omega,rfl⟩
  rw[<-bz] at a0;clear bu b3 b4 aK aq;have bt:(nn:Int)<=4:=fh;have bW:0<=(kk:Int)+1:=fh;have bX:(kk:Int)+1<=(nn:Int):=fh;have am:(Vb.alloc (U #[] 9)).heap[gx+1]?=F (U #[] 9 (0,0)):=by have h:=Vj Vb (U #[] 9);rw[a5] at h;exact h
  have bD:((Vb.alloc (U #[Q { data:=#[105] },Q { data:=#[122] }] 9)).alloc (U #[] 9)).heap[gx+2]?=F (U #[] 9 (0,0)):=by have h:=Vj (Vb.alloc (U #[Q { data:=#[105] },Q { data:=#[122] }] 9)) (U #[] 9);rw[VH,a5] at h;exact h
  have bL:=BR (W:=Vb.alloc (U #[] 9)) (e:=9) (cs:=#[Q { data:=#[105] },Q { data:=#[122] }]) (n:=2) (g:=gx+2) [{ data:=#[105] },{ data:=#[122] }] rfl rfl (by rw[VH,a5]) gv gv;have bM:=BR (W:=Vb) (e:=9) (cs:=#[Q { data:=#[105] },Q { data:=#[122] }]) (n:=2) (g:=gx+1) [{ data:=#[105] },{ data:=#[122] }] rfl rfl (by rw[a5]) gv gv;have aY:=Ty.up _ bM (show fy _ ((Vb.alloc (U #[Q { data:=#[105] },Q { data:=#[122] }] 9)).alloc (U #[] 9)) from gG);obtain⟨Q1,aA⟩:∃ Vc:N VQ,(if kk=3 then F ⟨gn,0,I⟩ else F ⟨gn,kk+1,I⟩)=Vc:=⟨_,rfl⟩
  obtain⟨Q2,aB⟩:∃ Vc:N VQ,(if kk=3 then F ⟨gn+1,0,I⟩ else F ⟨gn+1,kk+1,I⟩)=Vc:=⟨_,rfl⟩
  go_cut [9] from 27 to 45 (fun v wx=>∃(W8:V) (gb:Nat) (A8:N VQ) (c8:Nat) (S8:D Nat),v=.pointer (F ⟨gb,0,I⟩)/\gb=W8.heap.size/\fy Vb W8/\Has (jB.sl 9) W8 [J A8 (av+2) c8] (a1++[{ data:=#[105] },{ data:=#[122] }]) S8/\(∀ b∈S8,Vb.heap.size<=b)/\fy (W8.alloc (U #[.pointer (F ⟨k,0,I⟩),J A8 (av+2) c8,J Q1 (nn-(kk+1)) (3-kk),J Q2 (nn-(kk+1)) (3-kk)] 219)) wx)
  case first=>
   go_region_law (first
    | (refine rj (L:=av) rfl (.tmp 28) (.tmp 29) vu ng (S:=[gx+2]) (Has.iK jB (zj bD gF)) (Ty.up _ a0 gF) rfl rfl rfl (VJ _).symm fh fh ?_;intro A7 c7 W7 S7 a2 ab a9;have aF:fy Vb W7:=a2.fH gF (fun b hb=>by simp only[Vi] at hb;omega);have bb:=uT ng (Ty.up _ aY (fy.drew (fy.refl _))) a2 (fun ad e=>by injection e with e;subst e;simp))
    | (refine rj (L:=av) rfl (.tmp 28) (.tmp 29) vu ng (S:=[gx+1]) (Has.iK jB (zj am gF)) (Ty.up _ a0 gF) rfl rfl rfl (VJ _).symm fh fh ?_;intro A7 c7 W7 S7 a2 ab a9;have aF:fy Vb W7:=a2.fH gF (fun b hb=>by simp only[Vi] at hb;omega);have bb:=uT ng (Ty.up _ bL (fy.drew (fy.refl _))) a2 (fun ad e=>by injection e with e;subst e;simp))
    | (refine rj (L:=av) rfl (.tmp 28) (.tmp 29) vu ng (S:=[gx+1]) (Has.iK jB (zj am gF)) (Ty.up _ a0 gF) rfl rfl rfl (VJ _).symm fh fh ?_;intro A7 c7 W7 S7 a2 ab a9;have aF:fy Vb W7:=a2.fH gF (fun b hb=>by simp only[Vi] at hb;omega);have bb:=BR (W:=W7) (e:=9) (cs:=#[Q { data:=#[105] },Q { data:=#[122] }]) (n:=2) (g:=W7.heap.size) [{ data:=#[105] },{ data:=#[122] }] rfl rfl rfl gv gv)
    | (refine rj (L:=av+2) rfl (.tmp 30) (.tmp 31) vu ng (ab.fH gF) (Ty.up _ bb gF) rfl rfl rfl rfl fh fh ?_;intro A8 c8 W8 S8 af an aE;have aG:fy Vb W8:=af.fH (aF.trans gF) (fun b hb=>by rcases a9 b hb with h | h <;> simp at h <;> omega)))
   all_goals (try rw[aA])
   all_goals (try rw[aB])
   all_goals (try simp only[aA,aB])
   all_goals go_wp2_with(fail)
   all_goals go_meet
   all_goals exact⟨W8,_,A8,c8,S8,rfl,rfl,aG,an,(fun b hb=>(aE b hb).elim (fun h=>by rcases a9 b h with h | h <;> simp at h <;> omega) (fun h=>by have:=aF.size;(try simp at h);omega)),gF⟩
  obtain⟨W8,gb,A8,c8,S8,rfl,bo,aG,an,aE,aI⟩:=hcut;have b6:fy Vb wc:=(aG.trans (show fy W8 (W8.alloc (U #[.pointer (F ⟨k,0,I⟩),J A8 (av+2) c8,J Q1 (nn-(kk+1)) (3-kk),J Q2 (nn-(kk+1)) (3-kk)] 219)) from gG)).trans aI;have h3:=h2.fH b6;have b2:wc.heap[gb]?=F (U #[.pointer (F ⟨k,0,I⟩),J A8 (av+2) c8,J Q1 (nn-(kk+1)) (3-kk),J Q2 (nn-(kk+1)) (3-kk)] 219 (0,0)):=by rw[bo];exact zj (Vj W8 _) aI
  have b7:gb<wc.heap.size:=(blt b2)
  have co:=aG.size;have cp:=h1.only.size;have a3:=RO an;have aa:=an.lt
  have ac:∀ ad,Q1=F ad->ad.block=gn:=by
   rintro ad e;rw[<-aA] at e;split at e <;> (injection e with e;subst e;rfl)
  have ae:∀ ad,Q2=F ad->ad.block=gn+1:=by
   rintro ad e;rw[<-aB] at e;split at e <;> (injection e with e;subst e;rfl)
  have aK:=tm ng ai h3.only (fun ad e=>by injection e with e;subst e;simp only;omega);have aq:=tm zI ao h3.only (fun ad e=>by injection e with e;subst e;simp only;omega);have be:=KW (kk:=kk) (nn:=nn) rfl aK rfl fh a8;have b1:=KW (kk:=kk) (nn:=nn) rfl aq rfl fh a8;rw[aA] at be;rw[aB] at b1
  have bl:lp wc k gb A8 c8 (a1++[{ data:=#[105] },{ data:=#[122] }]) Q1 (3-kk) ((vV.drop (kk+1)).take (nn-(kk+1))) Q2 (3-kk) ((uH.drop (kk+1)).take (nn-(kk+1))):=
   lp.mk' b2 (by simp[a6]) (KO rfl fh a8).symm (KO rfl fh a8).symm (an.fH ((show fy W8 (W8.alloc _) from gG).trans aI)).read be b1 (fun ad e=>by have:=aE _ (a3 ad e);omega) (fun ad e=>by rw[ac ad e];omega) (fun ad e=>by rw[ae ad e];omega)
    (fun a ha=>(Ds a (YX (Yu ha))).2) rfl fh fh fh fh
  have ap:∀ b∈S,b<Vb.heap.size:=h2.has.lt;have a7:=h2.lo
  have ak:jK w Y wc k gb A8 c8 (a1++[{ data:=#[105] },{ data:=#[122] }]) Q1 (3-kk) ((vV.drop (kk+1)).take (nn-(kk+1))) Q2 (3-kk) ((uH.drop (kk+1)).take (nn-(kk+1))) A6 n6 c6 out S wc.heap.size:=
   ⟨h3,bl,Vz _,b7,fun ad e=>by have h1:=aa _ (a3 ad e);omega,fun ad e=>by rw[ac ad e];omega,fun ad e=>by rw[ae ad e];omega,fun hm=>by have:=ap _ hm;omega,fun ad e hm=>by have h1:=ap _ hm;have h2:=aE _ (a3 ad e);omega,fun ad e hm=>by rw[ac ad e] at hm;have:=a7 _ hm;omega,fun ad e hm=>by rw[ae ad e] at hm;have:=a7 _ hm;omega⟩
  have a0:=Ty.up _ a0 b6;have bU:gx∉S:=fun hm=>by have:=h1.has.lt gx hm;omega
  have b9:gx≠gb:=fh;have ba:gx≠k:=by have:=h1.cur.lt;omega
  have bS:Vb.heap.size<=gb:=fh;have aP:∀ ad,A8=F ad->ad.block≠gb:=fun ad e=>by have:=aa _ (a3 ad e);omega
  clear bo;have bp:0<=(kk:Int):=fh;have bq:(kk:Int)<=(nn:Int):=fh;obtain⟨m,hm⟩:∃ m,wc.heap.size=m:=⟨_,rfl⟩
  rw[hm] at ak;clear hm;go_upto_region 10 with(fail);go_cut [50] from 45 to 65 (fun v wx=>∃ b:Bool,v=X b/\Hid (jK w Y wx k gb A8 c8 (a1++[{ data:=#[105] },{ data:=#[122] }]) Q1 (3-kk) ((vV.drop (kk+1)).take (nn-(kk+1))) Q2 (3-kk) ((uH.drop (kk+1)).take (nn-(kk+1))) A6 n6 c6 out S m)/\(jB.sl 9).R wx wx.heap.size [J (F ⟨gx,0,I⟩) av 2] a1)
  case first=>
   by_cases hk0:0<kk
   ·have bc:(0:Int)<(kk:Int):=fh
    go_wp2_with(go_at_call 103;refine(zh5 h3.cur 5 gv gv).mono ?_;rintro e W5 ⟨b,rfl,bB,bk⟩);go_meet;exact⟨b,rfl,fk (ak.call bk bB),tm ng a0 bk (fun ad e=>by injection e with e;subst e;exact ba)⟩
   ·have bc:¬ ((0:Int)<(kk:Int)):=fh
    go_wp2_with(fail);go_meet;exact⟨M,rfl,fk ak,a0⟩
  obtain⟨b,rfl,aL,aZ⟩:=hcut;clear a0 ak h3 bl aK aq be b1 b2 b6 aI h2;have ah:=aL.out;go_upto_if 50 with(fail)
  go_cut [] from 45 to 65 (fun wx=>∃(A1:N VQ) (c1:Nat) (names:D G) (A2:N VQ) (c2:Nat) (aM:D Int),Hid (jK w Y wx k gb A8 c8 (a1++[{ data:=#[105] },{ data:=#[122] }]) A1 c1 names A2 c2 aM A6 n6 c6 out S m)/\(jB.sl 9).R wx wx.heap.size [J (F ⟨gx,0,I⟩) av 2] a1)
  case first=>
   cases b with
   | false=>
    go_wp2_with(fail);go_meet;exact⟨_,_,_,_,_,_,aL,aZ⟩
   | true=>
    obtain⟨p0,p1,p2,p3,pf,pl⟩:=jF ah.bx.jD;have c3:=tm ng ai ah.st.only (fun ad e=>by injection e with e;subst e;simp only;omega);have b0:=tm zI ao ah.st.only (fun ad e=>by injection e with e;subst e;simp only;omega);have ax:=C4 (lo:=kk) (m:=nn-kk) rfl c3 (by simp[vV];omega);have ar:=C4 (lo:=kk) (m:=nn-kk) rfl b0 (by simp[uH];omega);rw[VJ] at ax ar;have bK:gn∉S:=fun hm=>by have:=a7 _ hm;omega
    have bJ:gn+1∉S:=fun hm=>by have:=a7 _ hm;omega
    have ci:=ah.lb;have bF:=ah.set (d1:=4-kk) (d2:=4-kk) ax ar (by simp[vV];omega) (by simp[uH];omega) (fun ad e=>by injection e with e;subst e;exact⟨by simp only;omega,by simp only;omega,bK,by simp only;omega⟩) (fun ad e=>by injection e with e;subst e;exact⟨by simp only;omega,by simp only;omega,bJ,by simp only;omega⟩) rfl (fun a ha=>(Ds a (YX (Yu ha))).2) fh aP fh;have bP:=uT ng aZ (show fG [gb] wc ((wc.setCell ⟨gb,2,I⟩ (J (F ⟨gn,kk,I⟩) (nn-kk) (4-kk))).setCell ⟨gb,3,I⟩ (J (F ⟨gn+1,kk,I⟩) (nn-kk) (4-kk))) from((fG.refl [gb] wc).setCell gm _).setCell gm _) (fun ad e=>by injection e with e;subst e;simpa using b9);go_wp2_with(fail);go_meet;exact⟨_,_,_,_,_,_,fk bF,bP⟩
  obtain⟨A1,c1,names,A2,c2,aM,HR,a0⟩:=hcut;clear aL ah aZ;have hR:=HR.out;have br:=tm ng ai hR.st.only (fun ad e=>by injection e with e;subst e;simp only;omega);obtain⟨g1,o1,nm,aN,cn,al,bf⟩:=yG br (k:=kk) (by simp[vV];omega);injection aN with aN
  injection aN with e1 e2
  subst e1 e2;rw[VJ] at al;have b8:=Wf _ _ al;simp only at b8;have b5:(wc.alloc (U #[] 9)).cell? ⟨gn,kk,I⟩=F (Q nm):=zq al _;have am:=Vj wc (U #[] 9);go_upto_region 13 with(fail);go_cut [6] from 65 to 76 (fun v wx=>∃(A7:N VQ) (c7:Nat) (y:fB) (S7:D Nat),v=J A7 (n6+1) c7/\uM y/\Hid (jK w Y wx k gb A8 c8 (a1++[{ data:=#[105] },{ data:=#[122] }]) A1 c1 names A2 c2 aM A7 (n6+1) c7 (out++[y]) S7 m))
  case first=>
   go_region_law (first
    | (refine rj (L:=av) rfl (.tmp 70) (.tmp 71) vu ng (S:=[wc.heap.size]) (Has.iK jB (zj am gF)) (Ty.up _ a0 gF) rfl rfl rfl (VJ _).symm fh fh ?_;intro A9 c9 W9 S9 ag aR aX;have bn:fy wc W9:=ag.fH gF (fun b hb=>by simp only[Vi] at hb;omega);have al:=za bn al;have bi:=hR.fH bn;have aw:∀ b∈S9++[],wc.heap.size<=b:=(fun b hb=>by rw[Wu] at hb;rcases aX b hb with h | h <;> simp at h <;> omega);have aS:Has (jB.sl 9) W9 [J A9 a1.length c9] a1 S9:=(by rw[a6];simpa using aR);have cc:=FC (x:=⟨0,nm,a1,[]⟩) (show fQ 0 from⟨gv,gv⟩) bf aS (Has.nil jY 160 W9) (fun b _ hb=>by cases hb))
    | (refine Bh (L:=n6+1) rfl (.tmp 65) (.tmp 74) pg (bi.st.has.fH gF) (cc.fH gF) (fun b hb hm=>by have k1:=aw b hm;have k2:=hR.st.has.lt b hb;omega) rfl rfl rfl (by intro j u hu;simpa[go_sem,a6] using hu) rfl fh fh ?_;intro A7 c7 W7 S7 a2 ab a9;have aC:=(bi.fH gF).next a2 ab a9 (fun b hb=>by have k1:=aw b hb;have k2:=hR.le;have k3:=hR.st.only.size;omega) (by rw[Vk,<-hR.st.len];rfl)))
   all_goals go_wp2_with(fail)
   all_goals go_meet
   all_goals exact⟨A7,c7,_,S7,rfl,⟨gm,by simp only;omega⟩,fk (aC.fH gF)⟩
  obtain⟨A7,c7,y,S7,rfl,cd,bw⟩:=hcut;clear hR HR a0 al b5 am br;have aC:=bw.out
  go_upto_region 15 with(first
   | (go_at_call 36;(with_reducible refine(pT aC.st.cur 4 gv gv).mono ?_);rintro e V1 ⟨u1,rfl,cq,az,aD⟩;have bj:=aC.call aD az;have c5:Vl Z (1+(u1:Int))=1+u1:=iw)
   | (go_at_call 36;(with_reducible refine(pT bj.st.cur 2 gv gv).mono ?_);rintro e V2 ⟨u2,rfl,cr,bA,bH⟩;have aj:=bj.call bH bA;have ca:Vl Z (1+(u2:Int))=1+u2:=iw)
   | (go_at_call 156;(with_reducible refine(zsx (1+u2) fh (1+u1) fh _ fh _ fh aj.st.cur aj.bx).mono ?_);rintro e V3 ⟨B3,n3,d3,o3,T3,rfl,cl,bm,h3⟩;have aT:=aj.call h3.only h3.cur;have cg:(1+u1)*cb (1+u2)<=4*25:=Za fh (DH fh))
   | (refine Ck (L:=n6+1+n3) rfl (.tmp 76) (.tmp 84) pg aT.st.has h3.has (fun b hb hm=>by have k1:=h3.lo b hm;have k2:=aj.st.has.lt b hb;omega) rfl rfl rfl rfl fh fh ?_;intro B8 d8 V8 ce af aQ aW;have ak:=aT.next af aQ aW (fun b hb=>by have k1:=h3.lo b hb;have k2:=aj.le;have k3:=aj.st.only.size;omega) (by rw[Vk,<-aT.st.len,<-h3.len])))
  have a4:=ak
  go_upto_region 16 with(first
   | (go_at_call 157;refine(zeO (n:=3) (m:=3) gv gv a4.st.cur a4.bx).mono ?_;rintro e W6 ⟨B6,d6,o6,S6,rfl,bZ,bC,bI,bE,au⟩;have aU:=a4.call bI bC)
   | (refine zJ (L:=n6+1+n3+1) rfl (.tmp 86) (.tmp 90) pg (aU.fH gF).st.has ((uV (kd:=6) (nm:={ data:=#[] }) ⟨gv,gv⟩ gv bE).fH gF) (fun b hb hm=>by have k1:=au b hm;have k2:=a4.st.has.lt b hb;omega) rfl rfl rfl (by intro j u hu;simpa[go_sem] using hu) rfl fh fh ?_;intro B9 d9 V9 T9 ag aR aX;have aV:=(aU.fH gF).next ag aR aX (fun b hb=>by have k1:=au b hb;have k2:=a4.le;have k3:=a4.st.only.size;omega) (by rw[Vk,<-aU.st.len];rfl)))
  go_wp2_with(first
   | (refine zJ (L:=n6+1+n3+1+1) rfl (.tmp 92) (.tmp 94) pg (Sy:=[]) (aV.fH gF).st.has (BF (kd:=7) ⟨gv,gv⟩) (fun b hb hm=>by cases hm) rfl rfl rfl (by intro j u hu;simpa[go_sem] using hu) rfl fh fh ?_;intro B7 d7 V7 T7 a2 ab a9;have bG:=(aV.fH gF).next a2 ab a9 (fun b hb=>by cases hb) (by rw[Vk,<-aV.st.len];rfl)))
  go_roundw
  case measure=>exact iC
  case rel=>
   refine⟨kk+1,_,B7,d7,_,T7,rfl,io,fh,fh,?_,fk ?_,fk bG.st⟩
   ·have h1:qX [y]<=1:=YR _ _
    rw[C7,C7,C7,C7,Qb bm];have h2:qX [(⟨6,{ data:=#[] },[],o6⟩:fB)]=0:=rfl;have h3:qX [(⟨7,{ data:=#[] },[],[]⟩:fB)]=0:=rfl;omega
   ·exact FD (FD (Ue (FD HL.out cd) bm) ⟨by have:=bZ;simp only[pv] at this;simp at this |-;omega,gm⟩) ⟨gm,gm⟩
 ·obtain rfl:kk=nn:=fh
  have bd:¬ ((kk:Int)<(kk:Int)):=fh;go_wp2_with(fail);go_ret;have cj:=bg.out.size;have aJ:=bv.out;exact⟨A6,n6,c6,out,S,rfl,fh,HL.out,fh,⟨h1.cur,(bg.out.only [k]).trans h1.only,h1.has,fun b hb=>by have:=h1.lo b hb;omega,fh,h1.len⟩⟩
def Ci (W:V)(k:Nat)(A:N VQ)(c:Nat)(p:D fB):Prop:=∀ W2,fG [k] W W2->(zS.sl 99).R W2 W2.heap.size [J A p.length c] p
structure jo (p:D fB):Prop where
 ok:zA p=H
 short:pi p
 four:(zn p).length<=4
 len:p.length<=1000
 parts:∀ x∈p,x.gD.length<=1099511627776/\x.Expr.length<=1099511627776
theorem jo.of (h:zA p=H)(hl:∀ x∈p,uM x)(hc:qX p<=4)(hn:p.length<=500):jo p:=
 ⟨h,fun i x hx=>(hl x (Vx hx)).1,by unfold zn;rw[J1];exact hc,fh,fun x hx=>⟨by have:=(hl x hx).2;omega,by have:=(hl x hx).1;omega⟩⟩
theorem jo.one:jo AU:=jo.of Uf (fun x hx=>by
 simp only[AU,VT,WB,Xy] at hx
 rcases hx with rfl | rfl | rfl | rfl <;> exact⟨gv,gv⟩) gv gv
theorem jo.names (h:jo p):∀ x∈p,x.fJ.size<=9223372036854775807:=by
 intro x hx;obtain⟨i,hi,rfl⟩:=List.getElem_of_mem hx;have h1:=Jq h.ok (i:Int);rw[Af (Vq hi)] at h1;omega
def Up (w W:V)(k:Nat)(e:Z9)(W':V):Prop:=∃ A c p S,e=.returned (J A p.length c)/\jo p/\(zS.sl 99).O W' [J A p.length c] p S/\(∀ b∈S,W.heap.size<=b)/\jI w W' k/\fG [k] W W'
theorem Ui (h:(zS.sl 99).O W' [J A p.length c] p S)(hk:k∉S):Ci W' k A c p:=
 fun W2 h2=>Ty.read _ ((zS.sl 99).iA h (fun b hb=>h2.block b ((zS.sl 99).jQ h b hb) (fun hm=>by simp only[Vi] at hm;subst hm;exact hk hb)))
theorem Ug {g1 g2:Nat} (h1:W.heap[g1]?=F (U #[C Z 0,C Z 1,Q { data:=#[] }] 160 (0,0)))
  (h2:W.heap[g2]?=F (U #[C Z 0,Q { data:=#[109,97,105,110] },J I 0 0,J I 0 0,C Z 2,Q { data:=#[] },J I 0 0,J (F ⟨g1,0,I⟩) 1 1,C Z 6,Q { data:=#[] },J I 0 0,J (F ⟨g1,0,I⟩) 1 1,C Z 7,Q { data:=#[] },J I 0 0,J I 0 0] 99 (0,0)))
 : (zS.sl 99).O W [J (F ⟨g2,0,I⟩) 4 4] AU [g2,g1,g1]:=by
 have k1:=h1
 have k2:=h2
 have ht:(jY.sl 160).O W [J (F ⟨g1,0,I⟩) 1 1] [(⟨0,1,iK⟩:iq)] [g1]:=
  qG (xs:=[(⟨0,1,iK⟩:iq)]) k1 (S:=[]) ⟨_,[],[],[],rfl,rfl,Tx (x:=⟨0,1,iK⟩) ⟨gv,gv⟩ ⟨gv,gv⟩ gv,⟨rfl,rfl⟩⟩ gv
 have a0:=(Has.nil jB 9 W).1
 have a1:=(Has.nil jY 160 W).1
 have hO:=qG (T:=zS) (xs:=AU) (S:=[g1,g1]) k2 ⟨_,_,[],[g1,g1],rfl,rfl,By (x:=⟨0,vp,[],[]⟩) I 0 [] I 0 [] ⟨gv,gv⟩ gv a0 a1,
  ⟨_,_,[g1],[g1],rfl,rfl,By (x:=⟨2,iK,[],[⟨0,1,iK⟩]⟩) I 0 [] (F ⟨g1,0,I⟩) 1 [g1] ⟨gv,gv⟩ gv a0 ht,
  ⟨_,_,[g1],[],rfl,rfl,By (x:=⟨6,iK,[],[⟨0,1,iK⟩]⟩) I 0 [] (F ⟨g1,0,I⟩) 1 [g1] ⟨gv,gv⟩ gv a0 ht,
  ⟨_,[],[],[],rfl,rfl,By (x:=⟨7,iK,[],[]⟩) I 0 [] I 0 [] ⟨gv,gv⟩ gv a0 a1,⟨rfl,rfl⟩⟩⟩⟩⟩ gv
 exact hO
theorem zyv (hC:jI w W k):VK prog 68 #[.pointer (F ⟨k,0,I⟩)] W (Up w W k):=by
 have a4:=hC.lt;go_enter func68,ntmps68;go_wp2_with(fail);go_loopw [3] (fun i wr=>∃ j:Nat,i=C Z j/\j<=5/\Hid (jI w wr k)/\Hid (fG [k] W wr)) (fun i _=>5-(Wj i).toNat)
 case atStart=>exact⟨0,rfl,fh,fk hC,fk (fG.refl _ _)⟩
 obtain⟨j,rfl,hj,HC,HO⟩:=hrel;by_cases hlt:j<5
 ·have a1:(j:Int)<5:=fh
  have a6:Vl Z ((j:Int)+1)=(j:Int)+1:=iw;go_upto_region 5 with(go_at_call 101;refine(zvA HC.out).mono ?_;rintro e W1 ⟨A,n,c,out,S,rfl,hn,hL,hF,h1⟩);obtain rfl:=h1.len;obtain⟨pb,a0⟩:∃ pb,zA out=pb:=⟨_,rfl⟩
  have a2:=fk a0;have a3:=fk (fun(x:fB) (hx:x∈out)=>(⟨by have:=(hL x hx).2;omega,by have:=(hL x hx).1;omega⟩:x.gD.length<=1099511627776/\x.Expr.length<=1099511627776));cases pb with
  | true=>
   have hD:=fk (jo.of a0 hL hF hn);clear a0 hL hF;go_wp2_with(go_at_call 102;refine(zaU h1.has.read fh a3.out).mono ?_;rw[a2.out];rintro e W2 ⟨rfl,hG⟩);go_ret;have h2:=h1.fH hG;exact⟨A,c,out,S,rfl,hD.out,h2.has.1,fun b hb=>VL HO.out.size (h2.lo b hb),h2.cur,HO.out.trans h2.only⟩
  | false=>
   clear a0 hL hF;go_wp2_with(go_at_call 102;refine(zaU h1.has.read fh a3.out).mono ?_;rw[a2.out];rintro e W2 ⟨rfl,hG⟩);go_roundw
   case measure=>exact iC
   case rel=>
    have h2:=h1.fH hG;exact⟨j+1,io,fh,fk h2.cur,fk (HO.out.trans h2.only)⟩
 ·have a1:¬ (j:Int)<5:=fh
  go_wp2_with(fail);have a5:=HC.out.lt;have e1:=Vj wr (U #[C Z 0,C Z 1,Q { data:=#[] }] 160);have e2:=Vj (wr.alloc (U #[C Z 0,C Z 1,Q { data:=#[] }] 160)) (U #[C Z 0,Q { data:=#[109,97,105,110] },J I 0 0,J I 0 0,C Z 2,Q { data:=#[] },J I 0 0,J (F ⟨wr.heap.size,0,I⟩) 1 1,C Z 6,Q { data:=#[] },J I 0 0,J (F ⟨wr.heap.size,0,I⟩) 1 1,C Z 7,Q { data:=#[] },J I 0 0,J I 0 0] 99);rw[VH] at e2;have hG:fy wr ((wr.alloc (U #[C Z 0,C Z 1,Q { data:=#[] }] 160)).alloc (U #[C Z 0,Q { data:=#[109,97,105,110] },J I 0 0,J I 0 0,C Z 2,Q { data:=#[] },J I 0 0,J (F ⟨wr.heap.size,0,I⟩) 1 1,C Z 6,Q { data:=#[] },J I 0 0,J (F ⟨wr.heap.size,0,I⟩) 1 1,C Z 7,Q { data:=#[] },J I 0 0,J I 0 0] 99)):=gG;have e1:=zj e1 (show fy _ ((wr.alloc (U #[C Z 0,C Z 1,Q { data:=#[] }] 160)).alloc (U #[C Z 0,Q { data:=#[109,97,105,110] },J I 0 0,J I 0 0,C Z 2,Q { data:=#[] },J I 0 0,J (F ⟨wr.heap.size,0,I⟩) 1 1,C Z 6,Q { data:=#[] },J I 0 0,J (F ⟨wr.heap.size,0,I⟩) 1 1,C Z 7,Q { data:=#[] },J I 0 0,J I 0 0] 99)) from gG);go_ret;exact⟨F ⟨wr.heap.size+1,0,I⟩,4,AU,_,rfl,jo.one,Ug (g1:=wr.heap.size) (g2:=wr.heap.size+1) e1 e2,fun b hb=>by have:=HO.out.size;simp only[VT,WB,Xy] at hb;omega,HC.out.more hG,HO.out.trans (hG.only _)⟩
def Um (w W:V)(k:Nat)(e:Z9)(W':V):Prop:=∃ b:gP,e=.returned (.agg #[C Z b.gW,C Z b.gN,X b.iO,X b.ic])/\kC b=H/\jI w W' k/\fG [k] W W'
theorem Gh:∀ x∈([0,1,2,3]:D Int),fQ x/\0<=x/\x<=3:=by
 intro x hx;have:x=0∨x=1∨x=2∨x=3:=by simpa using hx
 rcases this with rfl | rfl | rfl | rfl <;> exact⟨⟨gv,gv⟩,gv,gv⟩
theorem zxU (hC:jI w W k):VK prog 69 #[.pointer (F ⟨k,0,I⟩)] W (Um w W k):=by
 have aw:=hC.lt;go_enter func69,ntmps69;go_upto_region 1 with(fail);have e2:=Vj W (U #[C Z 0,C Z 0,X M,X M] 71);have hG:fy W (W.alloc (U #[C Z 0,C Z 0,X M,X M] 71)):=gG;generalize (W.alloc _)=Y at e2 hG |-;obtain⟨g2,ag⟩:∃ g,W.heap.size=g:=⟨_,rfl⟩
 rw[ag] at e2 |-;have au:=fk ag;have ab:g2≠k:=fh;have ax:w.heap.size<=g2:=by have:=hC.lo;omega
 clear ag;have am:=hC.more hG;have af:=hG.only [k]
 go_upto_region 2 with(first
  | (go_at_call 36;refine(pT am 64 gv gv).mono ?_;rintro e W1 ⟨x,rfl,hx,ac,a3⟩;have hI:=FW (W:=W1) (e:=3) (cs:=#[C Z 0,C Z 1,C Z 2,C Z 3]) (n:=4) (g:=W1.heap.size) [0,1,2,3] rfl rfl rfl (fun a ha=>(Gh a ha).1) gv;have a1:jI w (W1.alloc (U #[C Z 0,C Z 1,C Z 2,C Z 3] 3)) k:=ac.more gG;have ar:∀ ad,F (⟨W1.heap.size,0,I⟩:VQ)=F ad->ad.block≠k:=(fun ad e=>by injection e with e;subst e;have:=ac.lt;simp only;omega))
  | (go_at_call 71;refine(zta a1 hI ar gv gv).mono ?_;rintro e W2 ⟨y,rfl,hy,a6,a4⟩))
 have a7:fy W2 (W2.alloc (U #[C Z x,C Z y,X M,X M] 71)):=gG;have e3:=Vj W2 (U #[C Z x,C Z y,X M,X M] 71);have a2:fy W1 (W1.alloc (U #[C Z 0,C Z 1,C Z 2,C Z 3] 3)):=gG;have a8:=(((af.trans a3).trans (a2.only [k])).trans a4).trans (a7.only [k]);have ae:=a6.more a7;have ap:=((a3.trans (a2.only [k])).trans a4).trans (a7.only [k]);have l2:=(blt e2)
 have e2:=(ap.block g2 l2 (by simpa using ab)).trans e2;have a5:W2.heap.size≠k:=by have:=a6.lt;omega
 have ah:w.heap.size<=W2.heap.size:=a6.fH.size;have av:W.heap.size<=W2.heap.size:=by have:=a8.size;have:=(af.trans ((a3.trans (a2.only [k])).trans a4)).size;omega
 have a0:g2≠W2.heap.size:=by have:=(a3.trans (a2.only [k])).size;have:=a4.size;omega
 have hb:=Gh y (by simpa using hy);generalize (W2.alloc _)=Y3 at e2 e3 a8 ae |-;obtain⟨g3,aq⟩:∃ g,W2.heap.size=g:=⟨_,rfl⟩
 rw[aq] at e3 a5 ah a0 av |-;clear aq a7 a2 ap a3 a4 ac a6 hI a1 ar af am l2;go_upto_region 3 with(go_at_call 103;refine(zh5 ae 2 gv gv).mono ?_;rintro e W4 ⟨b1,rfl,ai,a9⟩;have e4:=(a9.block g3 (blt e3) (by simpa using a5)).trans e3;have e2:=(a9.block g2 (blt e2) (by simpa using ab)).trans e2;obtain⟨r0,r1,r2,r3,rf,rl⟩:=jF e4);have o5:fG [g3] W4 (W4.setCell ⟨g3,2,I⟩ (X b1)):=(fG.refl [g3] W4).setCell gm _;have e5:=py e4 2 (X b1);have aj:=ai.only o5 (by simpa using a5.symm) (fun b hb=>by simp only[Vi] at hb;omega);have an:=(a8.trans a9).then o5 (fun b hb=>.inr (by simp only[Vi] at hb;omega));have e2:=(o5.block g2 (blt e2) (by simpa using a0)).trans e2;simp only[X5,Zt,Zu] at e5;generalize (W4.setCell _ _)=W5 at e2 e5 aj an |-;clear o5 e4 r0 r1 r2 r3 rf rl ai a9 a8 ae;go_upto_region 4 with(go_at_call 103;refine(zh5 aj 2 gv gv).mono ?_;rintro e W6 ⟨b2,rfl,ak,aa⟩;have e6:=(aa.block g3 (blt e5) (by simpa using a5)).trans e5;have e2:=(aa.block g2 (blt e2) (by simpa using ab)).trans e2;obtain⟨r0,r1,r2,r3,rf,rl⟩:=jF e6);have o7:fG [g3] W6 (W6.setCell ⟨g3,3,I⟩ (X b2)):=(fG.refl [g3] W6).setCell gm _;have e7:=py e6 3 (X b2);have al:=ak.only o7 (by simpa using a5.symm) (fun b hb=>by simp only[Vi] at hb;omega);have ao:=(an.trans aa).then o7 (fun b hb=>.inr (by simp only[Vi] at hb;omega));have e2:=(o7.block g2 (blt e2) (by simpa using a0)).trans e2;simp only[X5,Zt,Zu] at e7;generalize (W6.setCell _ _)=W7 at e2 e7 al ao |-;clear o7 e6 r0 r1 r2 r3 rf rl ak aa;obtain⟨r0,r1,r2,r3,rf,rl⟩:=jF e7;obtain⟨s0,s1,s2,s3,sf,sl⟩:=jF e2;go_wp2_with(fail);obtain⟨e8,o8⟩:=wj e2 (C Z x) (C Z y) (X b1) (X b2);obtain⟨t0,t1,t2,t3,_,_⟩:=jF e8;refine Vr (v:=.agg #[C Z x,C Z y,X b1,X b2]) (by simp[VF,results69,go_sem,t0,t1,t2,t3]) rfl ?_;refine⟨⟨x,y,b1,b2⟩,rfl,?_,al.only o8 (by simpa using ab.symm) (fun b hb=>by simp only[Vi] at hb;omega),ao.then o8 (fun b hb=>.inr (by simp only[Vi] at hb;have:=au.out;omega))⟩;unfold kC;rw[Vt];exact⟨zr.2 ⟨by simp only;omega,by simp only;omega⟩,zr.2 hb.2⟩
end Go.Proofs.YthgbglbaemelhaaGreat
