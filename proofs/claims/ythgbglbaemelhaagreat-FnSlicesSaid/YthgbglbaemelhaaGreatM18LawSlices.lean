/-
  PART.
-/
import Derived.Test.YthgbglbaemelhaaGreatM10LawSlices
import Derived.Test.YthgbglbaemelhaaGreatM17LawSlices
set_option linter.unusedVariables false
set_option linter.unusedSimpArgs false
set_option maxRecDepth 100000
set_option maxHeartbeats 8000000
namespace Go.Proofs.YthgbglbaemelhaaGreat
open Value renaming slice->G,int->J,string->V
open IntKind renaming i64->C,wrap->QP
open Option renaming none->D,some->Z
open Obj renaming cells->F
open Bool renaming false->I,true->M
open Go renaming World->U,Calls->Rh,Addr->Ri,bytes->Sx
open World renaming cell?->QL
open RowKit renaming intOf->Ry
open List renaming nil_append->RC
open Builtin renaming append_->Sz
open Tryz
open Go.RowKit
variable {W:U}{d:Nat}{kd:Int}{out:Q fv}
section
variable {α:Type} {T:Ty α} {e:TypeId} {P:Program} {t ty:TypeId} {Sx:Nat}
theorem Jd (hE:gZ P t e T Sx){W:U}{S:Q Nat}{A:X Ri}{n c:Nat}{xs:Q α}(h:Has (T.sl e) W [G A n c] xs S)
  {A2:X Ri} {m c2:Nat} {ys:Q α} {Sy:Q Nat} (hy:Has (T.sl e) W [G A2 m c2] ys Sy) (hd:∀ b∈S,b∉Sy)
  {L:Nat} (hL:L=n+m) (hb:L*Sx<=140737488355328) (h63:L<=9223372036854775807) :
  ∃ A' c'' W' S',(Sz #[t,t] ty #[G A n c,G A2 m c2]).run P W=.ok (G A' L c'') W'/\fw S W W'/\Has (T.sl e) W' [G A' L c''] (xs++ys) S'/\∀ b∈S',b∈S∨b∈Sy∨W.heap.size<=b:=by
 obtain⟨⟨A3,c3,a5,S3,hv,a8,a3,a6⟩,hN⟩:=hy;injection hv with hv _
 injection hv with hA hn hc
 subst hA hn hc a6;rw[Rs] at hN;obtain⟨a7,a1⟩:=a8;rcases a1 with⟨hv,hn⟩ | ⟨g,aa,a4,hv,_,hg,ae,ab,ac,a2⟩
 ·injection hv with hA _ hc
  subst hA hc;have a9:ys = []:=TJ (by omega);subst a9;subst hL;exact⟨A,c,W,S,Dw hE h _,fw.refl _ _,by simpa using h,fun b hb=>.inl hb⟩
 ·injection hv with hA _ hc
  subst hA hc
  have a0:∀(j:Nat) (u:Value),a5[j]?=Z u->W.cell? (Addr.add ⟨g,0,D⟩ j)=Z u:=by
   intro j u hu;rw[TM,Rk,RV W g j a4 e (0,0) hg];rw[<-a2,Sn] at hu;split at hu
   ·simpa using hu
   ·cases hu
  obtain⟨A',c'',W',S',k1,k2,k3,k4⟩:=xz (P:=P) (ty:=ty) hE h (ad:=⟨g,0,D⟩) a3 rfl a0 hN.2.1 (fun b hb hm=>hd b hb (Rr _ hm)) hL hb h63;exact⟨A',c'',W',S',k1,k2,k3,fun b hb=>(k4 b hb).elim .inl (fun h=>h.elim (fun h=>.inr (.inl (Rr _ h))) (fun h=>.inr (.inr h)))⟩
end
section
variable {α:Type} {T:Ty α} {e:TypeId} {P:Program} {t:TypeId} {Sx:Nat} {ops:Array Oper} {rest:Q Oper} {o:Oper} {a:Act} {QI:Exit->Act->U->Prop} {K:Act->U->Prop}
theorem yD (hgd:o.guard=D)(s x:Operand)(hE:gZ P t e T Sx){W:U}{S:Q Nat}{A:X Ri}{n c:Nat}{xs:Q α}(h:Has (T.sl e) W [G A n c] xs S)
  {A2:X Ri} {m c2:Nat} {ys:Q α} {Sy:Q Nat} (hy:Has (T.sl e) W [G A2 m c2] ys Sy) (hd:∀ b∈S,b∉Sy)
  (ho:o.op=.call { callee:=.builtin .append,args:=#[s,x],argTypes:=#[t,t] }) (hs:a.eval s=G A n c) (hx:a.eval x=G A2 m c2)
  {L:Nat} (hL:L=n+m) (hb:L*Sx<=140737488355328) (h63:L<=9223372036854775807)
  (hK:∀ A' c'' W' S',fw S W W'->Has (T.sl e) W' [G A' L c''] (xs++ys) S'->(∀ b∈S',b∈S∨b∈Sy∨W.heap.size<=b)->wpList P ops QI rest (a.put o.dst (G A' L c'')) W'):wpList P ops QI (o::rest) a W:=
 Uw hgd fun K hKK=>by
  obtain⟨A',c'',W',S',a0,a2,hF,a1⟩:=Jd (P:=P) (ty:=o.type) hE h hy hd hL hb h63;exact wA s x ho hs hx a0 (hKK _ _ (hK A' c'' W' S' a2 hF a1))
end
theorem sQ {nm:N} {B:X Ri} {o:Q gB} {S:Q Nat} (hk:fD kd)(hn:nm.size<=9223372036854775807)(hH:Has (iZ.sl 160) W [G B o.length d] o S):Has zJ W [J C kd,V nm,G D 0 0,G B o.length d] ⟨kd,nm,[],o⟩ S:=by
 have h:=xO (w:=W) (x:=⟨kd,nm,[],o⟩) D 0 [] B d S hk hn (Has.nil iH 9 W).1 hH.1;rw[RC] at h;exact⟨h,hH.2⟩
theorem xT (hk:fD kd):Has zJ W [J C kd,V { data:=#[] },G D 0 0,G D 0 0] ⟨kd,{ data:=#[] },[],[]⟩ []:=sQ (nm:={ data:=#[] }) (o:=[]) hk (by decide) (Has.nil iZ 160 W)
structure jD (W:U)(k gb:Nat)(A0:X Ri)(c0:Nat)(vars:Q N)(A1:X Ri)(c1:Nat)(names:Q N)(A2:X Ri)(c2:Nat)(ars:Q Int):Prop where
 iU:W.heap[gb]?=Z (F #[.pointer (Z ⟨k,0,D⟩),G A0 vars.length c0,G A1 names.length c1,G A2 ars.length c2] 219 (0,0))
 nK:lk W k A0 c0 vars A1 c1 names A2 c2 ars
 ne:gb≠k
 some_:0<vars.length
section
variable {k gb:Nat} {A0:X Ri} {c0:Nat} {vars:Q N} {A1:X Ri} {c1:Nat} {names:Q N} {A2:X Ri} {c2:Nat} {ars:Q Int}
theorem jD.only {W W':U}(h:jD W k gb A0 c0 vars A1 c1 names A2 c2 ars)(hs:fw [k] W W'):jD W' k gb A0 c0 vars A1 c1 names A2 c2 ars:=
 ⟨(hs.block gb ((blt h.iU)) (by simpa using h.ne)).trans h.iU,h.nK.only hs,h.ne,h.some_⟩
theorem jD.fx {W':U} (h:jD W k gb A0 c0 vars A1 c1 names A2 c2 ars)(hg:ft W W'):jD W' k gb A0 c0 vars A1 c1 names A2 c2 ars:=h.only (hg.only _)
theorem zd5 {w:U} {n:Nat} (hn:n<=6){m:Int}(hm:m=(n:Int))(hC:iM w W k)(hB:jD W k gb A0 c0 vars A1 c1 names A2 c2 ars) :
  Rh prog 157 #[.pointer (Z ⟨gb,0,D⟩),J C m] W (oZ w W k (nc n)):=by
 subst hm;obtain⟨b0,b1,b2,b3,bf,bl⟩:=iJ hB.iU;go_enter func157,ntmps157;go_upto_region 1 with(fail);go_region_held3 (fun w'=>QL w' ⟨gb,0,D⟩=Z (.pointer (Z ⟨k,0,D⟩))/\QL w' ⟨gb,1,D⟩=Z (G A0 vars.length c0)/\QL w' ⟨gb,2,D⟩=Z (G A1 names.length c1)/\QL w' ⟨gb,3,D⟩=Z (G A2 ars.length c2)) ((repeat' apply QQ) <;> ((repeat (first | with_reducible assumption | with_reducible refine zd ?_ _ _ | with_reducible refine zk ?_ _ | with_reducible refine zc ?_ | with_reducible refine zV ?_ _));done)) (first | (go_at_call 187;(with_reducible refine(zqm n hn n rfl (hC.more gF) (hB.nK.fx gF)).mono ?_);rintro e W4 ⟨B4,d4,o4,S4,rfl,a4,a2,a1,a3,a0⟩;obtain⟨b0,b1,b2,b3,bf,bl⟩:=iJ ((hB.fx gF).only a1).iU))
 all_goals go_wp2_with(fail)
 all_goals go_ret
 all_goals exact⟨B4,d4,o4,S4,rfl,a4,a2,(ft.only gF _).trans a1,a3,fun b hb=>by have:=a0 b hb;(try simp at this);omega⟩
end
def rQ (x:fv):Prop:=x.Kind≠0/\x.Expr.length<=7/\x.fM = []
theorem vt {g:Prop} (f:g:=by
  intro x hx
  rcases Q7.1 hx with hx | hx
  ·exact h x hx
  ·rw[QN.1 hx];exact hy):g:=f
theorem sE (h:∀ x∈out,rQ x){y:fv}(hy:rQ y):∀ x∈out++[y],rQ x:=by
 exact vt
theorem Dc {o:Q fv} (h:∀ x∈out,rQ x)(ho:∀ x∈o,rQ x):∀ x∈out++o,rQ x:=fun x hx=>(Q7.1 hx).elim (h x) (ho x)
def cb:Nat->Nat
 | 0=>1
 | d+1=>4+3*cb d
theorem Bc (d:Nat):1<=cb d:=by cases d <;> simp[cb] <;> omega
theorem Bh (h:d<=2):cb d<=25:=by
 have:d=0∨d=1∨d=2:=by omega
 rcases this with rfl | rfl | rfl <;> decide
theorem Ie (h:0<d):cb d=4+3*cb (d-1):=by
 obtain⟨e,rfl⟩:∃ e,d=e+1:=⟨d-1,by omega⟩
 rfl
theorem IW {k1 m1 k2 m2 k3 m3:Int} {s1 s2 s3:N} (a1:fD k1)(a2:fD m1)(a3:s1.size<=9223372036854775807)(b1:fD k2)(b2:fD m2)(b3:s2.size<=9223372036854775807)(c1:fD k3)(c2:fD m3)(c3:s3.size<=9223372036854775807) :
  Has (iZ.sl 160) (W.alloc (F #[J C k1,J C m1,V s1,J C k2,J C m2,V s2,J C k3,J C m3,V s3] 160)) [G (Z ⟨W.heap.size,0,D⟩) [gB.mk k1 m1 s1,⟨k2,m2,s2⟩,⟨k3,m3,s3⟩].length 3] [⟨k1,m1,s1⟩,⟨k2,m2,s2⟩,⟨k3,m3,s3⟩] [W.heap.size]:=
 ⟨pS (xs:=[⟨k1,m1,s1⟩,⟨k2,m2,s2⟩,⟨k3,m3,s3⟩]) (QO W _) (show Rows iZ _ _ _ [] from⟨[J C k1,J C m1,V s1],_,[],[],rfl,rfl,pP (sK (w:=W) (B:=0) (x:=⟨k1,m1,s1⟩) a1 a2 a3) _,⟨[J C k2,J C m2,V s2],_,[],[],rfl,rfl,pP (sK (w:=W) (B:=0) (x:=⟨k2,m2,s2⟩) b1 b2 b3) _,⟨[J C k3,J C m3,V s3],_,[],[],rfl,rfl,pP (sK (w:=W) (B:=0) (x:=⟨k3,m3,s3⟩) c1 c2 c3) _,⟨rfl,rfl⟩⟩⟩⟩) (by simp),by simp⟩
def P4 (w W:U)(k m:Nat)(e:Ending)(W':U):Prop:=∃ A n c out S,e=.returned (G A n c)/\n<=m/\(∀ x∈out,rQ x)/\gM zJ 99 w W W' k A n c out S
theorem gM.emp {α:Type}{T:Ty α}{t:TypeId}{w W0 W:U}{k:Nat}(hC:iM w W k)(hs:fw [k] W0 W)(hk:k<W0.heap.size):gM T t w W0 (W.alloc (F #[] t)) k (Z ⟨W.heap.size,0,D⟩) 0 0 [] [W.heap.size]:=
 ⟨hC.more gG,hs.trans (ft.only gG _),Has.emp T (QO W _),fun b hb=>by have:=hs.size;simp at hb;omega,hk,rfl⟩
theorem tO {g:Prop} (f:g:=by
  go_upto_if 24 with(go_at_call 103;(with_reducible refine(zgV h1.cur 3 (by decide) (by decide)).mono ?_);rintro e W5 ⟨b,rfl,hC5,hS5⟩)
  have h5:=h1.call hS5 hC5
  cases b with
  | false=>
   go_wp2_with(fail)
   go_roundw
   exact⟨r-1,n7,A7,c7,out,S,by go_num,by omega,rfl,by omega,HL,fh h5⟩
   exact gH
  | true=>
   go_wp2_with(first
    | (go_at_call 157;(with_reducible refine(zd5 (n:=4) (m:=4) (by decide) (by decide) h5.cur (hB.only h5.only)).mono ?_);rintro e W6 ⟨B6,d6,o6,S6,rfl,hl6,hC6,hS6,hH6,hlo6⟩;have h6:=h5.call hS6 hC6)
    | (refine zC (L:=n7+1) rfl (.tmp 25) (.tmp 29) mT (h6.fx gF).has ((sQ (kd:=6) (nm:={ data:=#[] }) ⟨by decide,by decide⟩ (by decide) hH6).fx gF) (fun b hb hm=>by have k1:=hlo6 b hm;have k2:=h5.has.lt b hb;omega) rfl rfl rfl (by intro j u hu;simpa[go_sem] using hu) rfl (by omega) (by omega) ?_;intro B7 d7 W7 S7 hon7 hH7 hS7;have h7:=(h6.fx gF).next hon7 hH7 hS7 (fun b hb=>by have k1:=hlo6 b hb;have k2:=h5.only.size;omega) (by rw[QR,<-h6.len];rfl)))
   go_roundw
   exact⟨r-1,_,B7,d7,_,S7,by go_num,by omega,rfl,by omega,fh (sE HL.out ⟨by simp,by have:=hl6;simp only[nc] at this;simpa using this,rfl⟩),fh h7⟩
   exact gH):g:=f
theorem rJ {g:Prop} (f:g:=by
  go_roundw
  exact⟨r-1,_,B7,d7,_,S7,by go_num,by omega,rfl,by omega,fh (sE HL.out ⟨by simp,by have:=hl6;simp only[nc] at this;simpa using this,rfl⟩),fh h7⟩
  exact gH):g:=f
theorem zql:∀(d:Nat),d<=2->∀(n:Nat),n<=4->∀(m:Int),m=(n:Int)->∀(dd:Int),dd=(d:Int)->∀{w W:U}{k gb:Nat}{A0:X Ri}{c0:Nat}{vars:Q N}{A1:X Ri}{c1:Nat}{names:Q N}{A2:X Ri}{c2:Nat}{ars:Q Int}(_:iM w W k)(_:jD W k gb A0 c0 vars A1 c1 names A2 c2 ars),
  Rh prog 156 #[.pointer (Z ⟨gb,0,D⟩),J C m,J C dd] W (P4 w W k (n*cb d)):=by
 intro d;induction d using Nat.strongRecOn with
 | _ d ih=>
 rintro hd n hn m rfl dd rfl w W k gb A0 c0 vars A1 c1 names A2 c2 ars hC hB;have IH:=fh ih;clear ih;have ao:=Bh hd;have aA:=Bc d;go_enter func156,ntmps156;go_upto_region 1 with(fail);go_upto_if 999 with(fail)
 have h0:=gM.emp (T:=zJ) (t:=99) hC (fw.refl [k] W) hC.lt;generalize (W.alloc _)=Y at h0 |-;go_loopw [1,7] (fun a o wr=>∃(r n7:Nat) (A7:X Ri) (c7:Nat) (out:Q fv) (S:Q Nat),a=J C r/\r<=n/\o=G A7 n7 c7/\n7+r*cb d<=n*cb d/\Hid (∀ x∈out,rQ x)/\Hid (gM zJ 99 w W wr k A7 n7 c7 out S)) (fun a _ _=>(Ry a).toNat)
 case atStart=>exact⟨n,0,_,0,[],_,rfl,Q8 _,rfl,by omega,fh (fun x hx=>by cases hx),fh h0⟩
 clear h0;obtain⟨r,n7,A7,c7,out,S,rfl,hr,rfl,aC,HL,HG⟩:=hrel;have h1:=HG.out;have aD:n*cb d<=100:=Rj (UD hn ao) (by decide);by_cases hlt:0<r
 ·have ac:(0:Int)<(r:Int):=by omega
  have aJ:QP C ((r:Int)-1)=(r:Int)-1:=iw
  have aG:r*cb d=(r-1)*cb d+cb d:=by
   obtain⟨q,rfl⟩:∃ q,r=q+1:=⟨r-1,by omega⟩
   rw[Nat.add_sub_cancel,Ur,TV]
  have aF:=Bc d;obtain⟨b0,b1,b2,b3,bf,bl⟩:=iJ (hB.only h1.only).iU;go_upto_region 7 with(go_at_call 36;(with_reducible refine(nO h1.cur 9 (by decide) (by decide)).mono ?_);rintro e W2 ⟨x,rfl,hx,ai,aj⟩);have h1:=h1.call aj ai;clear b0 b1 b2 b3 bf bl aj ai;obtain⟨b0,b1,b2,b3,bf,bl⟩:=iJ (hB.only h1.only).iU;by_cases hx4:x<4
  ·have ad:(x:Int)<4:=by omega
   have aI:=hB.some_;have aH:=hB.nK.lv;go_upto_region 8 with(fail);go_cut [9] from 34 to 50 (fun v wx=>∃ nm,v=V nm/\nm.size<=9223372036854775807/\Hid (gM zJ 99 w W wx k A7 n7 c7 out S))
   case first=>
    go_region_law (first | (go_simp;go_at_call 36;(with_reducible refine(nO (h1.cur.more gF) (vars.length:Int) (by omega) (by omega)).mono ?_);rintro e W3 ⟨j,rfl,hj,a4,a5⟩;have h3:=(h1.fx gF).call a5 a4;obtain⟨b0,b1,b2,b3,bf,bl⟩:=iJ (hB.only h3.only).iU;obtain⟨g0,o0,nm,al,aE,az,a1⟩:=vP (hB.nK.only h3.only).v (k:=j) (by omega);subst al))
    all_goals go_wp2_with(fail)
    all_goals go_meet
    all_goals exact⟨nm,rfl,a1,fh (h3.fx gF)⟩
   obtain⟨nm,rfl,a1,H1⟩:=hcut;clear h1 b0 b1 b2 b3 bf bl;have h1:=H1.out
   go_wp2_with(first
     | (go_at_call 157;(with_reducible refine(zd5 (n:=6) (m:=6) (by decide) (by decide) h1.cur (hB.only h1.only)).mono ?_);rintro e W6 ⟨B6,d6,o6,S6,rfl,hl6,hC6,hS6,hH6,hlo6⟩;have h6:=h1.call hS6 hC6)
     | (refine zC (L:=n7+1) rfl (.tmp 50) (.tmp 55) mT (h6.fx gF).has ((sQ (kd:=1) (nm:=nm) ⟨by decide,by decide⟩ a1 hH6).fx gF) (fun b hb hm=>by have k1:=hlo6 b hm;have k2:=h1.has.lt b hb;omega) rfl rfl rfl (by intro j u hu;simpa[go_sem] using hu) rfl (by omega) (by omega) ?_;intro B7 d7 W7 S7 hon7 hH7 hS7;have h7:=(h6.fx gF).next hon7 hH7 hS7 (fun b hb=>by have k1:=hlo6 b hb;have k2:=h1.only.size;omega) (by rw[QR,<-h6.len];rfl)))
   exact rJ
  have ad:¬ ((x:Int)<4):=by omega
  by_cases hx6:x<6
  ·have ae:(x:Int)<6:=by omega
   go_wp2_with(first
     | (go_at_call 157;(with_reducible refine(zd5 (n:=5) (m:=5) (by decide) (by decide) h1.cur (hB.only h1.only)).mono ?_);rintro e W6 ⟨B6,d6,o6,S6,rfl,hl6,hC6,hS6,hH6,hlo6⟩;have h6:=h1.call hS6 hC6)
     | (refine zC (L:=n7+1) rfl (.tmp 60) (.tmp 64) mT (h6.fx gF).has ((sQ (kd:=2) (nm:={ data:=#[] }) ⟨by decide,by decide⟩ (by decide) hH6).fx gF) (fun b hb hm=>by have k1:=hlo6 b hm;have k2:=h1.has.lt b hb;omega) rfl rfl rfl (by intro j u hu;simpa[go_sem] using hu) rfl (by omega) (by omega) ?_;intro B7 d7 W7 S7 hon7 hH7 hS7;have h7:=(h6.fx gF).next hon7 hH7 hS7 (fun b hb=>by have k1:=hlo6 b hb;have k2:=h1.only.size;omega) (by rw[QR,<-h6.len];rfl)))
   exact rJ
  have ae:¬ ((x:Int)<6):=by omega
  by_cases hif:x=6/\0<d
  ·obtain⟨a8,a9⟩:=hif
   have af:((x:Int) == 6)=M:=by rw[a8];rfl
   have aa:(0:Int)<(d:Int):=by omega
   have a6:d-1<d:=by omega
   have a3:d-1<=2:=by omega
   have aw:QP C ((d:Int)-1)=(d:Int)-1:=iw;have ap:=Ie a9;have aq:=Bc (d-1)
   go_upto_region 14 with(first
     | (go_at_call 157;(with_reducible refine(zd5 (n:=4) (m:=4) (by decide) (by decide) h1.cur (hB.only h1.only)).mono ?_);rintro e W6 ⟨B6,d6,o6,S6,rfl,hl6,hC6,hS6,hH6,hlo6⟩;have h6:=h1.call hS6 hC6)
     | (refine zC (L:=n7+1) rfl (.tmp 73) (.tmp 77) mT (h6.fx gF).has ((sQ (kd:=3) (nm:={ data:=#[] }) ⟨by decide,by decide⟩ (by decide) hH6).fx gF) (fun b hb hm=>by have k1:=hlo6 b hm;have k2:=h1.has.lt b hb;omega) rfl rfl rfl (by intro j u hu;simpa[go_sem] using hu) rfl (by omega) (by omega) ?_;intro B7 d7 W7 S7 hon7 hH7 hS7;have h2:=(h6.fx gF).next hon7 hH7 hS7 (fun b hb=>by have k1:=hlo6 b hb;have k2:=h1.only.size;omega) (by rw[QR,<-h6.len];rfl)))
   have L2:=sE HL.out (y:=⟨3,{ data:=#[] },[],o6⟩) ⟨by simp,by have:=hl6;simp only[nc] at this;simpa using this,rfl⟩;clear b0 b1 b2 b3 bf bl;obtain⟨b0,b1,b2,b3,bf,bl⟩:=iJ (hB.only h2.only).iU;have a7:∀ q,q<=2->q*cb (d-1)<=2*cb (d-1):=fun q hq=>Sk _ hq;have an:=Bh a3
   go_upto_region 15 with(first
     | (go_at_call 36;(with_reducible refine(nO h2.cur 2 (by decide) (by decide)).mono ?_);rintro e W3 ⟨y,rfl,hy,a4,a5⟩;have h3:=h2.call a5 a4;have ax:QP C (1+(y:Int))=1+y:=iw)
     | (go_at_call 156;(with_reducible refine(IH.out (d-1) a6 a3 (1+y) (by omega) _ (by omega) _ (by omega) h3.cur (hB.only h3.only)).mono ?_);rintro e W6 ⟨B6,n6,d6,o6,S6,rfl,aB,ar,h6⟩;have ah:=h3.call h6.only h6.cur;have ay:=a7 (1+y) (by omega))
     | (refine yD (L:=n7+1+n6) rfl (.tmp 79) (.tmp 89) mT ah.has h6.has (fun b hb hm=>by have k1:=h6.lo b hm;have k2:=h3.has.lt b hb;omega) rfl rfl rfl rfl (by omega) (by omega) ?_;intro B7 d7 W7 S7 hon7 hH7 hS7;have h4:=ah.next hon7 hH7 hS7 (fun b hb=>by have k1:=h6.lo b hb;have k2:=h3.only.size;omega) (by rw[QR,<-ah.len,<-h6.len])))
   have L4:=Dc L2 ar;clear b0 b1 b2 b3 bf bl;obtain⟨b0,b1,b2,b3,bf,bl⟩:=iJ (hB.only h4.only).iU;have av:n7+1+n6<=n7+1+2*cb (d-1):=by omega
   go_upto_if 95 with(go_at_call 103;(with_reducible refine(zgV h4.cur 2 (by decide) (by decide)).mono ?_);rintro e W5 ⟨b,rfl,hC5,hS5⟩)
   have h5:=h4.call hS5 hC5;cases b with
   | false=>
    go_wp2_with(first
     | (refine zC (L:=n7+1+n6+1) rfl (.tmp 106) (.tmp 108) mT (Sy:=[]) (h5.fx gF).has (xT (kd:=7) ⟨by decide,by decide⟩) (fun b hb hm=>by cases hm) rfl rfl rfl (by intro j u hu;simpa[go_sem] using hu) rfl (by omega) (by omega) ?_;intro B7 d7 W7 S7 hon7 hH7 hS7;have h9:=(h5.fx gF).next hon7 hH7 hS7 (fun b hb=>by cases hb) (by rw[QR,<-h5.len];rfl)))
    go_roundw;exact⟨r-1,_,B7,d7,_,S7,by go_num,by omega,rfl,by omega,fh (sE L4 ⟨by simp,by simp,rfl⟩),fh h9⟩;exact gH
   | true=>
    go_upto_region 17 with(first
     | (refine zC (L:=n7+1+n6+1) rfl (.tmp 96) (.tmp 98) mT (Sy:=[]) (h5.fx gF).has (xT (kd:=4) ⟨by decide,by decide⟩) (fun b hb hm=>by cases hm) rfl rfl rfl (by intro j u hu;simpa[go_sem] using hu) rfl (by omega) (by omega) ?_;intro B7 d7 W7 S7 hon7 hH7 hS7;have h7:=(h5.fx gF).next hon7 hH7 hS7 (fun b hb=>by cases hb) (by rw[QR,<-h5.len];rfl)))
    go_upto_region 18 with(first
     | (go_at_call 156;(with_reducible refine(IH.out (d-1) a6 a3 1 (by omega) _ (by omega) _ (by omega) h7.cur (hB.only h7.only)).mono ?_);rintro e W8 ⟨B8,n8,d8,o8,S8,rfl,au,ab,h8⟩;have a2:=h7.call h8.only h8.cur;have am:=a7 1 (by omega))
     | (refine yD (L:=n7+1+n6+1+n8) rfl (.tmp 100) (.tmp 104) mT a2.has h8.has (fun b hb hm=>by have k1:=h8.lo b hm;have k2:=h7.has.lt b hb;omega) rfl rfl rfl rfl (by omega) (by omega) ?_;intro B7 d7 W7 S7 hon7 hH7 hS7;have h9:=a2.next hon7 hH7 hS7 (fun b hb=>by have k1:=h8.lo b hb;have k2:=h7.only.size;omega) (by rw[QR,<-a2.len,<-h8.len])))
    have L9:=Dc (sE L4 (y:=⟨4,{ data:=#[] },[],[]⟩) ⟨by simp,by simp,rfl⟩) ab
    go_wp2_with(first
     | (refine zC (L:=n7+1+n6+1+n8+1) rfl (.tmp 106) (.tmp 108) mT (Sy:=[]) (h9.fx gF).has (xT (kd:=7) ⟨by decide,by decide⟩) (fun b hb hm=>by cases hm) rfl rfl rfl (by intro j u hu;simpa[go_sem] using hu) rfl (by omega) (by omega) ?_;intro B7 d7 W7 S7 hon7 hH7 hS7;have hz:=(h9.fx gF).next hon7 hH7 hS7 (fun b hb=>by cases hb) (by rw[QR,<-h9.len];rfl)))
    go_roundw;exact⟨r-1,_,B7,d7,_,S7,by go_num,by omega,rfl,by omega,fh (sE L9 ⟨by simp,by simp,rfl⟩),fh hz⟩;exact gH
  by_cases hlp:x=7/\0<d
  ·obtain⟨a8,a9⟩:=hlp
   have af:((x:Int) == 6)=I:=by rw[a8];rfl
   have ag:((x:Int) == 7)=M:=by rw[a8];rfl
   have aa:(0:Int)<(d:Int):=by omega
   have a6:d-1<d:=by omega
   have a3:d-1<=2:=by omega
   have aw:QP C ((d:Int)-1)=(d:Int)-1:=iw;have ap:=Ie a9;have aq:=Bc (d-1);have a7:∀ q,q<=2->q*cb (d-1)<=2*cb (d-1):=fun q hq=>Sk _ hq;have an:=Bh a3;have a0:∀{z:Int},z=0∨z=1∨z=2∨z=5->fD z:=fun h=>by rcases h with rfl | rfl | rfl | rfl <;> exact⟨by decide,by decide⟩
   go_upto_region 21 with(first
     | (go_at_call 36;(with_reducible refine(nO h1.cur 3 (by decide) (by decide)).mono ?_);rintro e W3 ⟨y,rfl,hy,a4,a5⟩;have h3:=h1.call a5 a4;have ax:QP C (1+(y:Int))=1+y:=iw)
     | (refine zC (L:=n7+1) rfl (.tmp 117) (.tmp 129) mT (h3.fx gF).has ((sQ (kd:=5) (nm:={ data:=#[] }) (o:=[⟨5,0,{ data:=#[] }⟩,⟨1,0,{ data:=#[105] }⟩,⟨0,(1+(y:Int)),{ data:=#[] }⟩]) ⟨by decide,by decide⟩ (by decide) (IW (k1:=5) (m1:=0) (s1:={ data:=#[] }) (k2:=1) (m2:=0) (s2:={ data:=#[105] }) (k3:=0) (m3:=(1+(y:Int))) (s3:={ data:=#[] }) (a0 (by decide)) (a0 (by decide)) (by decide) (a0 (by decide)) (a0 (by decide)) (by decide) (a0 (by decide)) (by exact⟨by omega,by omega⟩) (by decide))).fx gF) (fun b hb hm=>by have k1:=h3.has.lt b hb;simp only[QN] at hm;omega) rfl rfl rfl (by intro j u hu;simpa[go_sem] using hu) rfl (by omega) (by omega) ?_;intro B7 d7 W7 S7 hon7 hH7 hS7;have h5:=(h3.fx gF).next hon7 hH7 hS7 (fun b hb=>by simp only[QN] at hb;have k2:=h3.only.size;omega) (by rw[QR,<-h3.len];rfl)))
   have L5:=sE HL.out (y:=⟨5,{ data:=#[] },[],[⟨5,0,{ data:=#[] }⟩,⟨1,0,{ data:=#[105] }⟩,⟨0,1+(y:Int),{ data:=#[] }⟩]⟩) ⟨by simp,by simp,rfl⟩
   go_upto_region 22 with(first
     | (go_at_call 156;(with_reducible refine(IH.out (d-1) a6 a3 1 (by omega) _ (by omega) _ (by omega) h5.cur (hB.only h5.only)).mono ?_);rintro e W8 ⟨B8,n8,d8,o8,S8,rfl,au,ab,h8⟩;have a2:=h5.call h8.only h8.cur;have am:=a7 1 (by omega))
     | (refine yD (L:=n7+1+n8) rfl (.tmp 131) (.tmp 135) mT a2.has h8.has (fun b hb hm=>by have k1:=h8.lo b hm;have k2:=h5.has.lt b hb;omega) rfl rfl rfl rfl (by omega) (by omega) ?_;intro B7 d7 W7 S7 hon7 hH7 hS7;have h9:=a2.next hon7 hH7 hS7 (fun b hb=>by have k1:=h8.lo b hb;have k2:=h5.only.size;omega) (by rw[QR,<-a2.len,<-h8.len])))
   have L9:=Dc L5 ab
   go_upto_region 23 with(first
     | (refine zC (L:=n7+1+n8+1) rfl (.tmp 137) (.tmp 143) mT (h9.fx gF).has ((sQ (kd:=1) (nm:={ data:=#[105] }) (o:=[⟨2,0,{ data:=#[] }⟩,⟨1,0,{ data:=#[105] }⟩,⟨0,1,{ data:=#[] }⟩]) ⟨by decide,by decide⟩ (by decide) (IW (k1:=2) (m1:=0) (s1:={ data:=#[] }) (k2:=1) (m2:=0) (s2:={ data:=#[105] }) (k3:=0) (m3:=1) (s3:={ data:=#[] }) (a0 (by decide)) (a0 (by decide)) (by decide) (a0 (by decide)) (a0 (by decide)) (by decide) (a0 (by decide)) (by exact⟨by omega,by omega⟩) (by decide))).fx gF) (fun b hb hm=>by have k1:=h9.has.lt b hb;simp only[QN] at hm;omega) rfl rfl rfl (by intro j u hu;simpa[go_sem] using hu) rfl (by omega) (by omega) ?_;intro B7 d7 W7 S7 hon7 hH7 hS7;have hy:=(h9.fx gF).next hon7 hH7 hS7 (fun b hb=>by simp only[QN] at hb;have k2:=h9.only.size;omega) (by rw[QR,<-h9.len];rfl)))
   have ak:=sE L9 (y:=⟨1,{ data:=#[105] },[],[⟨2,0,{ data:=#[] }⟩,⟨1,0,{ data:=#[105] }⟩,⟨0,1,{ data:=#[] }⟩]⟩) ⟨by simp,by simp,rfl⟩
   go_wp2_with(first
     | (refine zC (L:=n7+1+n8+1+1) rfl (.tmp 145) (.tmp 147) mT (Sy:=[]) (hy.fx gF).has (xT (kd:=7) ⟨by decide,by decide⟩) (fun b hb hm=>by cases hm) rfl rfl rfl (by intro j u hu;simpa[go_sem] using hu) rfl (by omega) (by omega) ?_;intro B7 d7 W7 S7 hon7 hH7 hS7;have hz:=(hy.fx gF).next hon7 hH7 hS7 (fun b hb=>by cases hb) (by rw[QR,<-hy.len];rfl)))
   go_roundw;exact⟨r-1,_,B7,d7,_,S7,by go_num,by omega,rfl,by omega,fh (sE ak ⟨by simp,by simp,rfl⟩),fh hz⟩;exact gH
  by_cases hx66:x=6
  ·have aa:¬ ((0:Int)<(d:Int)):=by omega
   have af:((x:Int) == 6)=M:=by rw[hx66];rfl
   have ag:((x:Int) == 7)=I:=by rw[hx66];rfl
   exact tO
  have af:((x:Int) == 6)=I:=by simp;omega
  by_cases hx77:x=7
  ·have aa:¬ ((0:Int)<(d:Int)):=by omega
   have ag:((x:Int) == 7)=M:=by rw[hx77];rfl
   exact tO
  have ag:((x:Int) == 7)=I:=by simp;omega
  go_upto_if 24 with(go_at_call 103;(with_reducible refine(zgV h1.cur 3 (by decide) (by decide)).mono ?_);rintro e W5 ⟨b,rfl,hC5,hS5⟩)
  have h5:=h1.call hS5 hC5;cases b with
  | false=>
   go_wp2_with(fail);go_roundw;exact⟨r-1,n7,A7,c7,out,S,by go_num,by omega,rfl,by omega,HL,fh h5⟩;exact gH
  | true=>
   go_wp2_with(first
     | (go_at_call 157;(with_reducible refine(zd5 (n:=4) (m:=4) (by decide) (by decide) h5.cur (hB.only h5.only)).mono ?_);rintro e W6 ⟨B6,d6,o6,S6,rfl,hl6,hC6,hS6,hH6,hlo6⟩;have h6:=h5.call hS6 hC6)
     | (refine zC (L:=n7+1) rfl (.tmp 25) (.tmp 29) mT (h6.fx gF).has ((sQ (kd:=6) (nm:={ data:=#[] }) ⟨by decide,by decide⟩ (by decide) hH6).fx gF) (fun b hb hm=>by have k1:=hlo6 b hm;have k2:=h5.has.lt b hb;omega) rfl rfl rfl (by intro j u hu;simpa[go_sem] using hu) rfl (by omega) (by omega) ?_;intro B7 d7 W7 S7 hon7 hH7 hS7;have h7:=(h6.fx gF).next hon7 hH7 hS7 (fun b hb=>by have k1:=hlo6 b hb;have k2:=h5.only.size;omega) (by rw[QR,<-h6.len];rfl)))
   exact rJ
 ·obtain rfl:r=0:=by omega
  have ac:¬ ((0:Int)<((0:Nat):Int)):=by omega
  go_wp2_with(fail);go_ret;exact⟨A7,n7,c7,out,S,rfl,by omega,HL.out,h1⟩
end Go.Proofs.YthgbglbaemelhaaGreat
