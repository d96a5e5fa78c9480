/-
  PART.
-/
import Derived.Test.YthgbglbaemelhaaGreatM26LawSlices
import Derived.Test.YthgbglbaemelhaaGreatM29LawSlices
import Derived.StillTailTactics
set_option linter.unusedVariables false
set_option linter.unusedSimpArgs false
set_option maxRecDepth 100000
set_option maxHeartbeats 8000000
namespace Go.Proofs.YthgbglbaemelhaaGreat
open Value renaming slice->G,int->J,bool->H
open IntKind renaming i64->C,wrap->QP
open Option renaming none->D,some->Z,map_some->Tm
open Obj renaming cells->F
open Bool renaming false->I,true->M
open Go renaming World->U,results->Rd,Calls->Rh,Addr->Ri,yielded->Su,undef->TE
open World renaming cell?->QL,frozen?->Rb
open _root_.Int renaming toNat_natCast->Ra
open List renaming length_cons->Rc,length_nil->Ru,take_succ_cons->RN,take_zero->Sd
open RowKit renaming intOf->Ry
open _root_.Nat renaming add_zero->RK
open Region renaming wanted->Rx,ready->RL,noSelect->Tn,Mode->Ts,free->Ui
open Tryz
open Go.RowKit
variable {Av:X Ri}{L Lm S Sv:Q Nat}{P:jj}{R0 rows:Q (Q Value)}{W W' W1 W2:U}{cv gs k n:Nat}{f g tgt:Int}{fs:Q Int}{m:fS}
structure qi (P:jj):Prop where
 hp:(zJ.sl 99).R P.Y P.Y.heap.size [G P.A P.E.p.length P.c] P.E.p
 hs:∀ x∈P.E.p,x.fM.length<=1099511627776/\x.Expr.length<=1099511627776
 env:gP P.E
theorem qi.hl (h:qi P):P.E.p.length<=1099511627776:=Rj h.env.pc.len (by decide)
theorem qi.up {P:jj}{W:U}(h:qi P)(hg:ft P.Y W):(zJ.sl 99).R W W.heap.size [G P.A P.E.p.length P.c] P.E.p:=Ty.up _ h.hp hg
def iR (fs:Q Int)(rows:Q (Q Value)):Prop:=rows.map (fun r=>r[0]?)=fs.map (fun f=>Z (J C f))
theorem iR.len (h:iR fs rows):rows.length=fs.length:=by
 have:=Sg List.length h;simpa using this
theorem iR.at {fs:Q Int}{rows:Q (Q Value)}(h:iR fs rows){k:Nat}{r:Q Value}(hk:rows[k]?=Z r):∃ f,fs[k]?=Z f/\r[0]?=Z (J C f):=by
 have h1:=Sg (fun l=>l[k]?) h;simp only[Um,hk,Tm] at h1;cases hf:fs[k]? with
 | none=>rw[hf] at h1;cases h1
 | some f=>
  rw[hf] at h1;exact⟨f,rfl,by simpa using h1⟩
theorem ND (hf:fs[k]?=Z f)(h:(fs.take k).any (fun f=>decide (f=g))=I)(hfg:f≠g):(fs.take (k+1)).any (fun f=>decide (f=g))=I:=by
 rw[RH,hf,List.any_append,h];simp[hfg]
theorem Pw (hf:fs[k]?=Z f)(hfg:f=g):fs.any (fun f=>decide (f=g))=M:=by
 rw[SR];exact⟨f,Q9 hf,by simp[hfg]⟩
theorem uZ {g:Prop} (f:g:=by
  go_wp2_with(fail)
  exact QU (v:=H I) (by simp[Rd,results218,go_sem]) rfl ⟨by rw[HF.out],hgA.trans gF⟩):g:=f
theorem zlt (h:jf P m rows W L)(hR:qi P)(hF:iR fs rows)(hln:m.items.length<=100000)(hn:0<rows.length/\rows.length<=100)(hg:0<=g/\g<=1000) :
  Rh prog 218 #[.pointer (Z ⟨P.g,0,D⟩),J C g] W fun r W'=>r=.returned (H (mP P.E fs m g))/\ft W W':=by
 have ab:=h.iU.2.2.2.2;have hp:=hR.up ab;have hl:=hR.hl;have ai:=hR.env.pc.len;have ag:=hR.env.inl;obtain⟨e,he⟩:∃ e,iN P.E.p g=e:=⟨_,rfl⟩
 have aj : -1<=e/\e<=60:=by
  rcases vJ P.E.p g with h1 | ⟨a,e',h1,h2,h3⟩
  ·omega
  ·have:=h3.len;omega
 have HE:=fh he;have aa:=hF.len;have a8:Hid (mP P.E fs m g=(decide ((rows.length:Int)-1<P.E.inl) && (decide (e-g<=9) && (decide ((m.items.length:Int)<200) && !(fs.any fun f=>decide (f=g)))))):=fh (by unfold mP;rw[he,aa]);have ac:=fh aa;clear aa he;obtain⟨Ai,ci,Si,As,cs,Ss,hB,rfl⟩:=h;obtain⟨z0,z1,z2,z3,z4,z5,z6,z7,z8,z9,a2,a3,aq,zf,zl⟩:=nr hB.box;have an:QP C ((rows.length:Int)-1)=(rows.length:Int)-1:=iw;have ao:QP C (e-g)=e-g:=iw;by_cases c1:(rows.length:Int)-1<P.E.inl
 rotate_left
 ·have HF:Hid (mP P.E fs m g=I):=fh (by rw[a8.out,QT c1];rfl)
  have ad:P.E.inl<=(rows.length:Int)-1:=by omega
  clear c1;go_enter func218,ntmps218;go_upto_region 1 with(fail);go_quiet ((first | (fail)));go_wp2_with(fail);exact QU (v:=H I) (by simp[Rd,results218,go_sem]) rfl ⟨by rw[HF.out],gG⟩
 have ad:¬ (P.E.inl<=(rows.length:Int)-1):=by omega
 obtain⟨d2,a4⟩:∃ b,decide (9<e-g)=b:=⟨_,rfl⟩
 obtain⟨d3,a5⟩:∃ b,decide (200<=(m.items.length:Int))=b:=⟨_,rfl⟩
 go_enter func218,ntmps218;go_upto_region 1 with(fail);refine jT (fun w'=>QL w' ⟨P.g,0,D⟩=Z (G P.A P.E.p.length P.c)/\QL w' ⟨P.g,2,D⟩=Z (J C P.E.inl)/\QL w' ⟨P.g,10,D⟩=Z (G Ai m.items.length ci)/\QL w' ⟨P.g,11,D⟩=Z (G As rows.length cs)) 30 (by kernel_rfl) (QQ (zc z0) (QQ (zc z2) (QQ (zc a2) (zc a3)))) (fun hH=>?_);have a9:ft W W.drew:=(ft.refl _).drew;clear z0 z2 a2 a3;generalize W.drew=wx at a9 hH |-;obtain⟨z0,z2,a2,a3⟩:=id hH;refine .tk 0 [1,2,3,4,5,11,12,22,23,30] hH ?_;refine .tk 1 [2,3,4,5,11,12,22,23,30] hH ?_;refine .tk 2 [3,4,5,11,12,22,23,30] hH ?_;refine .tk 3 [4,5,11,12,22,23,30] hH ?_;refine .tk 4 [5,11,12,22,23,30] hH ?_;refine .tk 5 [11,12,22,23,30] hH ?_;refine .tk 6 [7,8,9,10,11,12,22,23,30] hH ?_;refine .tk 7 [8,9,10,11,12,22,23,30] hH ?_;refine .tk 8 [9,10,11,12,22,23,30] hH ?_;refine .tk 9 [10,11,12,22,23,30] hH ?_;refine .tk 10 [11,12,22,23,30] hH ?_;refine .tk 11 [12,22,23,30] hH ?_;refine .tk 12 [22,23,30] hH ?_;refine .tk 13 [14,15,16,18,23,30] hH ?_;refine .tk 14 [15,16,18,23,30] hH ?_;refine .tk 15 [16,18,23,30] hH ?_;refine .tk 16 [18,23,30] hH ?_;refine .tk 17 [18,23,30] hH ?_;refine .tk 19 [20,21,22,23,30] hH ?_;refine fA.one (i:=18) (by kernel_rfl) rfl (fun K hK=>?_);go_simp;go_at_call 160;(with_reducible refine(zbi (Ty.up _ hp a9) hl).mono ?_);rw[HE.out];rintro e v1 ⟨rfl,a6⟩;have a7:=a9.trans a6;have z0:=za a6 z0;have z2:=za a6 z2;have a2:=za a6 a2;have a3:=za a6 a3;refine hK.out _ _ (QQ z0 (QQ z2 (QQ a2 a3))) (fun hI=>?_);clear hK hH;have hH:=hI
 try simp only[lay]
 refine .tk 20 [21,22,23,30] hH ?_;refine .tk 21 [22,23,30] hH ?_;refine .tk 22 [23,30] hH ?_;refine .tk 23 [30] hH ?_;cases d2 with
 | true=>
  have HF:Hid (mP P.E fs m g=I):=fh (by rw[a8.out,QT (p:=e-g<=9) (by have:=Tl a4;omega)];simp);clear a4 a5;refine .sk 24 [25,26,27,28,29,30] hH ?_;refine .sk 25 [26,27,28,29,30] hH ?_;refine .sk 26 [27,28,29,30] hH ?_;refine .sk 27 [28,29,30] hH ?_;refine .sk 28 [29,30] hH ?_;refine .sk 29 [30] hH ?_;refine fA.last (by kernel_rfl) rfl (by kernel_rfl) (fun K hK=>?_);go_simp;refine hK.out _ _ ?_;clear hK
  try simp only[lay]
  have hgA:ft W _:=a7;exact uZ
 | false=>
  refine .tk 24 [25,26,27,28,29,30] hH ?_;refine .tk 25 [26,27,28,29,30] hH ?_;refine .tk 26 [27,28,29,30] hH ?_;refine .tk 27 [28,29,30] hH ?_;refine .tk 28 [29,30] hH ?_;refine .tk 29 [30] hH ?_;refine fA.last (by kernel_rfl) rfl (by kernel_rfl) (fun K hK=>?_);go_simp;refine hK.out _ _ ?_;clear hK
  try simp only[lay]
  have hgA:ft W _:=a7;cases d3 with
  | true=>
   have HF:Hid (mP P.E fs m g=I):=fh (by rw[a8.out,QT (p:=(m.items.length:Int)<200) (by have:=Tl a5;omega)];simp);clear a4 a5;exact uZ
  | false=>
   have HF:Hid (mP P.E fs m g = !(fs.any fun f=>decide (f=g))):=fh (by rw[a8.out,QY c1,QY (p:=e-g<=9) (by have:=Uh a4;omega),QY (p:=(m.items.length:Int)<200) (by have:=Uh a5;omega)];rfl);clear a4 a5 c1;go_wp2_with(fail);go_loopw [5] (fun z wr=>∃(k:Nat),z=J C k/\k<=rows.length/\Hid (ft W wr)/\Hid ((fs.take k).any (fun f=>decide (f=g))=I)) (fun z _=>rows.length-(Ry z).toNat)
   case atStart=>exact⟨0,rfl,QX _,fh (hgA.trans gF),fh rfl⟩
   case round=>
    obtain⟨k,rfl,hk,hG,hA⟩:=hrel;have a1:=hG.out;have ap:=(nr (zj hB.box a1)).2.2.2.2.2.2.2.2.2.2.2.1;have yf:∀ j,Rb wr ⟨P.g,j,D⟩=I:=(nr (zj hB.box a1)).2.2.2.2.2.2.2.2.2.2.2.2.2.1;by_cases hlt:k<rows.length
    ·have hr:rows[k]?=Z rows[k]:=QW hlt
     obtain⟨f,hf,h0⟩:=hF.at hr;obtain⟨gs,rfl,al,ae,ak,am,a0,_⟩:=IC hB.nh hr;have x0:=za a1 (a0 0 _ h0);rw[RK] at x0;have ah:(k:Int)<(rows.length:Int):=by omega
     have af:=QS ae a1.size;by_cases hfg:f=g
     ·have hb:(f == g)=M:=Rt.2 hfg
      have HT:Hid (mP P.E fs m g=I):=fh (by rw[HF.out,Pw hf hfg];rfl);clear hfg hr a0 h0;go_wp2_with(fail);exact QU (v:=H I) (by simp[Rd,results218,go_sem]) rfl ⟨by rw[HT.out],a1.trans gF⟩
     ·have hb:(f == g)=I:=QV.2 hfg
      have HA:=fh (ND hf hA.out hfg);clear hfg hr a0 h0;go_wp2_with(fail);go_roundw;exact⟨k+1,by go_num,by omega,fh (hG.out.trans gF),HA⟩;exact gH
    ·obtain rfl:k=rows.length:=by omega
     have ah:¬ ((rows.length:Int)<(rows.length:Int)):=by omega
     have HT:Hid (mP P.E fs m g=M):=fh (by rw[HF.out];have h1:=hA.out;rw[ac.out,RX] at h1;rw[h1];rfl);go_wp2_with(fail);exact QU (v:=H M) (by simp[Rd,results218,go_sem]) rfl ⟨by rw[HT.out],a1.trans gF⟩
theorem vI {P:Program} {id:Nat} {QI:Exit->Act->U->Prop} {a:Act} {w:U} {l:Q Oper} (n:Nat)(hm:P.follows .mixedOrders=M)(hB:Region.lexTailB .any l.toArray n=M)
  (h:∀ w',ft w w'->wpStill P l.toArray w' (fun a'=>wpList P l.toArray QI (l.drop n) a' w') (l.take n) a):(Code.region id l.toArray M).wp P QI a w:=
 wp_region_still_tail n hm hB (h w.drew ((ft.refl _).drew))
theorem jf.fz (h:jf P m rows W L):(∀ j,Rb W ⟨P.g,j,D⟩=I)/\P.g<W.heap.size:=by
 obtain⟨Ai,ci,Si,As,cs,Ss,h,rfl⟩:=h;exact⟨(nr h.box).2.2.2.2.2.2.2.2.2.2.2.2.2.1,(blt h.box)⟩
def qM:Ty (Int × Int):=zr.prod zr
theorem C9:kA qM:=oG zD zD
theorem PG:(prog.info? 264).map (fun i=>(i.zero,i.size,i.bytes))=Z (Z (.agg #[J C 0,J C 0]),2,16):=by kernel_rfl
theorem Dr:gZ prog 261 264 qM 16:=by
 obtain⟨i0,hi,a0,a1,a2⟩:=SJ PG;exact⟨underlying261,⟨i0,_,hi,a0,a1,a2,rfl⟩,by decide⟩
theorem PL {e:TypeId} {A:X Ri} {c:Nat} {xs:Q (Int × Int)} {x:Int × Int} (h:Has (qM.sl e) W [G A n c] xs S)(hx:xs[k]?=Z x) :
  ∃ g,A=Z ⟨g,0,D⟩/\g∈S/\g<W.heap.size/\QL W ⟨g,k*2,D⟩=Z (J C x.1)/\QL W ⟨g,k*2+1,D⟩=Z (J C x.2)/\fD x.1/\fD x.2:=by
 obtain⟨g,ec,Sc,rfl,a1,a2,_,_,_,hO,_,a0,_,_⟩:=qt h.1 h.2 hx;obtain⟨_,_,_,_,rfl,rfl,⟨rfl,b1,b2,rfl⟩,⟨rfl,b3,b4,rfl⟩⟩:=hO;exact⟨g,rfl,a1,a2,a0 0 _ rfl,a0 1 _ rfl,⟨b1,b2⟩,⟨b3,b4⟩⟩
theorem Lh {l:Q fP} {es:Q (Int × Int)} {e:Int × Int} {v:Int} (h:es[k]?=Z e):nU l (es.take (k+1)) tgt v=if e.1=tgt then mw (nU l (es.take k) tgt v) e.2.toNat v else nU l (es.take k) tgt v:=by
 unfold nU;rw[RH,h,List.foldl_append];rfl
theorem zvR {es:Q (Int × Int)} {Ae:X Ri} {ce:Nat} {Se:Q Nat} (h:jf P m rows W L)(he:Has (qM.sl 264) W [G Ae es.length ce] es Se)(hd:∀ b∈Se,b∉L)
  (hj:∀ e∈es,gU m.items e.2) (hln:m.items.length<=100000) (hel:es.length<=100000) :
  Rh prog 210 #[.pointer (Z ⟨P.g,0,D⟩),G Ae es.length ce,J C tgt] W fun r W'=>r=.returned (.tuple #[])/\gC P (lD m es tgt) rows W L W':=by
 have h0:=h.iU.2.1;go_enter func210,ntmps210;go_wp2_with(fail);go_loopw [6] (fun z wr=>∃(k:Nat),z=J C k/\k<=es.length/\Hid (gC P (m.iK (nU m.items (es.take k) tgt m.items.length)) rows W L wr)) (fun z _=>es.length-(Ry z).toNat)
 case atStart=>exact⟨0,rfl,QX _,fh (gC.refl h)⟩
 case round=>
  obtain⟨k,rfl,hk,hN⟩:=hrel;by_cases hlt:k<es.length
  ·have hx:es[k]?=Z es[k]:=QW hlt
   generalize es[k]=e at hx;have am:(k:Int)<(es.length:Int):=by omega
   obtain⟨L1,hS,hO,hL⟩:=hN.out;obtain⟨g2,ag,aj,a6,y0,y1,b0,b1⟩:=PL (he.fJ hO hd) hx;have hP:=Lh (l:=m.items) (tgt:=tgt) (v:=m.items.length) hx;obtain⟨a8,a0⟩:=s9 (es.take k) m.items tgt m.items.length;have aa:=a8.jump e.2 (hj e (Q9 hx));obtain⟨l,hl⟩:∃ l,nU m.items (es.take k) tgt m.items.length=l:=⟨_,rfl⟩
   rw[hl] at hP hS a0 aa;obtain⟨j,x,a7,a4,_⟩:=aa;obtain⟨gi,ci,a3,ak,al,ai,ah,a1⟩:=hS.arg (m:=m.iK l) a4;obtain⟨zf,zl⟩:=hS.fz;obtain⟨n,hn⟩:∃ n,m.items.length=n:=⟨_,rfl⟩
   have a3:QL wr ⟨P.g,10,D⟩=Z (G (Z ⟨gi,0,D⟩) n ci):=by rw[a3];simp only[fS.iK,a0,hn]
   have ar:j<n:=by have:=(QM.1 a4).1;omega
   have aq:(j:Int)<(n:Int):=by omega
   rw[hn] at hP hln a0;have an:fD (n:Int):=⟨by omega,by omega⟩
   subst ag;by_cases hto:e.1=tgt
   ·have hb:(e.1 == tgt)=M:=Rt.2 hto
    rw[a7] at y1;have HS:=fh hS;have HO:=fh (show fw L W wr from hO);have HL:=fh hL;have HP:=fh hP;have ae:=fh a4;have af:=fh hto;have ac:=fh a7;have ad:=fh a0;clear hto hP a1 hx hN hS hO he hd hj hl a8 hL a4 a7 ah;go_upto_region 4 with(fail);refine vI 17 (by kernel_rfl) (by kernel_rfl) (fun wx hgx=>?_);have a5:=HS.out.fx hgx;obtain⟨a9,ap,ab,aw,_,av,au,a2⟩:=a5.arg (m:=m.iK l) ae.out;obtain⟨xf,xl⟩:=a5.fz
    obtain rfl:a9=gi:=by
     have h9:=za hgx a3;rw[ab] at h9;simp only[Rv,St,UJ] at h9;exact h9.1.1
    have ao:=za hgx a3;have ax:=za hgx y0;have ay:=za hgx y1;obtain⟨p1,p2⟩:=a2 n an
    have HN:Hid (gC P (m.iK (nU m.items (es.take (k+1)) tgt m.items.length)) rows W L (wx.setCell ⟨a9,j*7+1,D⟩ (J C (n:Int)))):=fh (by
     rw[hn,HP.out,Q5 af.out,ac.out,Ra]
     exact⟨L1,p1,(HO.out.trans (hgx.only L)).then p2 HL.out,HL.out⟩)
    clear a3 y0 y1 zf zl a5 ab a2 p1 p2 ai ak a6;simp only[RN,Sd,RT,RZ]
    repeat still_step
    refine Ta ?_;go_wp2_with(fail);go_roundw;exact⟨k+1,by go_num,by omega,HN⟩;exact gH
   ·have hb:(e.1 == tgt)=I:=QV.2 hto
    have HN:Hid (gC P (m.iK (nU m.items (es.take (k+1)) tgt m.items.length)) rows W L wr):=fh (by
     rw[hn,hP,QZ hto,<-hl]
     exact hN.out)
    clear hto hP a1 hx hN hS hO he hd hj hl a8;go_wp2_with(fail);go_roundw;exact⟨k+1,by go_num,by omega,HN⟩;exact gH
  ·obtain rfl:k=es.length:=by omega
   have am:¬ ((es.length:Int)<(es.length:Int)):=by omega
   have HN:Hid (gC P (lD m es tgt) rows W L wr):=fh (by have h9:=hN.out;rw[RX] at h9;exact h9);go_wp2_with(fail);exact Rz (v:=.tuple #[]) (by simp[Rd,results210,go_sem]) rfl ⟨rfl,HN.out⟩
theorem jf.row (h:jf P m rows W L){k:Nat}{r:Q Value}(hr:rows[k]?=Z r) :
  ∃ gs cs,QL W ⟨P.g,11,D⟩=Z (G (Z ⟨gs,0,D⟩) rows.length cs)/\gs∈L/\gs<W.heap.size/\gs≠P.g/\(∀ j,Rb W ⟨gs,j,D⟩=I)/\r.length=6/\(∀ j u,r[j]?=Z u->QL W ⟨gs,k*6+j,D⟩=Z u)/\
   ∀ j u,j<6->u.oneCell'=M->jf P m (rows.set k (r.set j u)) (W.setCell ⟨gs,k*6+j,D⟩ u) L/\fw L W (W.setCell ⟨gs,k*6+j,D⟩ u):=by
 obtain⟨Ai,ci,Si,As,cs,Ss,h,rfl⟩:=h;obtain⟨gs,rfl,a2,a4,a3,a5,a0,a1⟩:=IC h.nh hr;refine⟨gs,cs,(nr h.box).2.2.2.2.2.2.2.2.2.2.2.1,by simp[a2],a4,fun e=>h.gn.2 (e ▸ a2),a3,a5,a0,fun j u hj hu=>?_⟩;obtain⟨h1,h2⟩:=a1 j u hj hu;refine⟨⟨Ai,ci,Si,Z ⟨gs,0,D⟩,cs,Ss,⟨?_,h.hJ.fJ h2 (fun b hb hm=>h.jS b hb hm),by rw[Rn];exact h1,h.jS,h.gn,h2.fx h.fx h.low.2.2,h.low⟩,rfl⟩,h2.mono (fun b hb=>by simp[hb])⟩;rw[Rn];exact(h2.block P.g (blt h.box) h.gn.2).trans h.box
theorem jf.fJ {P:jj}{m:fS}{rows:Q (Q Value)}{W W':U}{L S:Q Nat}(h:jf P m rows W L)(ho:fw S W W')(hS:∀ b∈S,b∉L/\P.Y.heap.size<=b):jf P m rows W' L:=by
 obtain⟨Ai,ci,Si,As,cs,Ss,h,rfl⟩:=h;exact⟨Ai,ci,Si,As,cs,Ss,h.fJ ho (fun b hb=>⟨fun e=>(hS b hb).1 (by simp[e]),fun hm=>(hS b hb).1 (by simp[hm]),fun hm=>(hS b hb).1 (by simp[hm]),(hS b hb).2⟩),rfl⟩
structure iC where
 Ac:X Ri
 cc:Nat
 Sc:Q Nat
 Al:X Ri
 cl:Nat
 Sl:Q Nat
def jZ (s:fG)(T:iC)(Av:X Ri)(cv:Nat):Q Value:=[J C s.f,G T.Ac s.chain.length T.cc,G T.Al s.locals.length T.cl,J C s.first,H s.outer,G Av s.leaves.length cv]
structure ko (P:jj)(T:iC)(m:fS)(R0:Q (Q Value))(s:fG)(W:U)(Av:X Ri)(cv:Nat)(Sv Lm:Q Nat):Prop where
 st:jf P m (R0++[jZ s T Av cv]) W Lm
 chain:Has (zr.sl 3) W [G T.Ac s.chain.length T.cc] s.chain T.Sc
 locals:Has (iH.sl 9) W [G T.Al s.locals.length T.cl] s.locals T.Sl
 leaves:Has (zr.sl 3) W [G Av s.leaves.length cv] s.leaves Sv
 dc:∀ b∈T.Sc,b∉Lm/\b∉Sv
 dl:∀ b∈T.Sl,b∉Lm/\b∉Sv
 dv:∀ b∈Sv,b∉Lm
 lv:∀ b∈Sv,P.Y.heap.size<=b
def nD (P:jj)(T:iC)(m:fS)(R0:Q (Q Value))(s:fG)(W:U)(L:Q Nat):Prop:=∃ Av cv Sv Lm,ko P T m R0 s W Av cv Sv Lm/\L=Lm++Sv
def gg (P:jj)(T:iC)(m':fS)(R0:Q (Q Value))(s':fG)(W:U)(L:Q Nat)(W':U):Prop:=∃ L',nD P T m' R0 s' W' L'/\fw L W W'/\∀ b∈L',b∈L∨W.heap.size<=b
theorem wI {L':Q Nat} (h:∀ b∈S,b∉L)(hl:∀ b∈S,b<W.heap.size)(hL:∀ b∈L',b∈L∨W.heap.size<=b):∀ b∈S,b∉L':=fun b hb hm=>by
 rcases hL b hm with h1 | h1
 ·exact h b hb h1
 ·have:=hl b hb;omega
theorem ko.fx {P:jj}{T:iC}{m:fS}{R0:Q (Q Value)}{s:fG}{W W':U}{Av:X Ri}{cv:Nat}{Sv Lm:Q Nat}(h:ko P T m R0 s W Av cv Sv Lm)(hg:ft W W'):ko P T m R0 s W' Av cv Sv Lm:=
 ⟨h.st.fx hg,h.chain.fx hg,h.locals.fx hg,h.leaves.fx hg,h.dc,h.dl,h.dv,h.lv⟩
theorem nD.fx {P:jj}{T:iC}{m:fS}{R0:Q (Q Value)}{s:fG}{W W':U}{L:Q Nat}(h:nD P T m R0 s W L)(hg:ft W W'):nD P T m R0 s W' L:=by
 obtain⟨Av,cv,Sv,Lm,h,rfl⟩:=h;exact⟨Av,cv,Sv,Lm,h.fx hg,rfl⟩
theorem gg.refl {P:jj}{T:iC}{m:fS}{R0:Q (Q Value)}{s:fG}{W:U}{L:Q Nat}(h:nD P T m R0 s W L):gg P T m R0 s W L W:=⟨L,h,fw.refl _ _,fun _ hb=>.inl hb⟩
theorem gg.fx {P:jj}{T:iC}{m:fS}{R0:Q (Q Value)}{s:fG}{W W' W2:U}{L:Q Nat}(h:gg P T m R0 s W L W')(hg:ft W' W2):gg P T m R0 s W L W2:=by
 obtain⟨L',h1,h2,h3⟩:=h;exact⟨L',h1.fx hg,h2.trans (hg.only L),h3⟩
theorem gg.from {T:iC} {s:fG} (hg:ft W W1)(h:gg P T m R0 s W1 L W2):gg P T m R0 s W L W2:=by
 exact vg
theorem gg.trans {T:iC} {m2:fS} {s2:fG} {L1:Q Nat} (ho:fw L W W1)(hl:∀ b∈L1,b∈L∨W.heap.size<=b)(k:gg P T m2 R0 s2 W1 L1 W2):gg P T m2 R0 s2 W L W2:=by
 exact uR
theorem ko.next {T:iC} {m':fS} {s:fG} (h:ko P T m R0 s W Av cv Sv Lm)(k:gC P m' (R0++[jZ s T Av cv]) W Lm W'):gg P T m' R0 s W (Lm++Sv) W':=by
 obtain⟨L',h1,h2,h3⟩:=k;refine⟨L'++Sv,⟨Av,cv,Sv,L',⟨h1,h.chain.fJ h2 (fun b hb=>(h.dc b hb).1),h.locals.fJ h2 (fun b hb=>(h.dl b hb).1),h.leaves.fJ h2 h.dv,fun b hb=>⟨wI (fun b hb=>(h.dc b hb).1) h.chain.lt h3 b hb,(h.dc b hb).2⟩,fun b hb=>⟨wI (fun b hb=>(h.dl b hb).1) h.locals.lt h3 b hb,(h.dl b hb).2⟩,wI h.dv h.leaves.lt h3,h.lv⟩,rfl⟩,h2.mono (fun b hb=>Rm _ hb),fun b hb=>?_⟩;rcases Q7.1 hb with hb | hb
 ·exact(h3 b hb).imp (fun h=>Rm _ h) id
 ·exact .inl (Rr _ hb)
theorem ko.num {P:jj}{T:iC}{m m':fS}{R0:Q (Q Value)}{s:fG}{W:U}{Av:X Ri}{cv:Nat}{Sv Lm:Q Nat}(h:ko P T m R0 s W Av cv Sv Lm){i:Nat}{v:Value}(hi:m'.items=m.items)
  (hrow:∀ a b c d e f g x y,(#[a,b,c,d,e,f,g,J C m.gL,J C P.E.args,J C m.depth,x,y,H m.start]:Array Value).setIfInBounds i v=#[a,b,c,d,e,f,g,J C m'.gL,J C P.E.args,J C m'.depth,x,y,H m'.start]) :
  gg P T m' R0 s W (Lm++Sv) (W.setCell ⟨P.g,i,D⟩ v):=h.next ((gC.refl h.st).num hi hrow)
theorem gg.num {P:jj}{T:iC}{m m':fS}{R0:Q (Q Value)}{s:fG}{W W':U}{L:Q Nat}(h:gg P T m R0 s W L W'){i:Nat}{v:Value}(hi:m'.items=m.items)
  (hrow:∀ a b c d e f g x y,(#[a,b,c,d,e,f,g,J C m.gL,J C P.E.args,J C m.depth,x,y,H m.start]:Array Value).setIfInBounds i v=#[a,b,c,d,e,f,g,J C m'.gL,J C P.E.args,J C m'.depth,x,y,H m'.start]) :
  gg P T m' R0 s W L (W'.setCell ⟨P.g,i,D⟩ v):=by
 obtain⟨L',⟨Av,cv,Sv,Lm,h,rfl⟩,h2,h3⟩:=h;exact gg.trans h2 h3 (h.num hi hrow)
theorem ko.leaf {T:iC} {s:fG} {A':X Ri} {c':Nat} {S':Q Nat} {lv:Q Int} (h:ko P T m R0 s W Av cv Sv Lm)(hon:fw Sv W W')(hH:Has (zr.sl 3) W' [G A' lv.length c'] lv S')(hS:∀ b∈S',b∈Sv∨W.heap.size<=b)
  (hz:∃ cs,QL W' ⟨P.g,11,D⟩=Z (G (Z ⟨gs,0,D⟩) (R0.length+1) cs)) :
  gg P T m R0 ⟨s.f,s.chain,s.locals,s.first,s.outer,lv⟩ W (Lm++Sv) (W'.setCell ⟨gs,R0.length*6+5,D⟩ (G A' lv.length c')):=by
 obtain⟨cs,hz⟩:=hz;have h1:=h.st.fJ hon (fun b hb=>⟨h.dv b hb,h.lv b hb⟩);have hr:(R0++[jZ s T Av cv])[R0.length]?=Z (jZ s T Av cv):=by rw[RF (Q8 _),RP];rfl
 obtain⟨a5,a7,a6,a9,aa,ab,a8,ad,a0,a3⟩:=h1.row hr
 obtain rfl:a5=gs:=by
  rw[a6] at hz;simp only[Rv,St,UJ] at hz;exact hz.1.1
 obtain⟨p1,p2⟩:=a3 5 (G A' lv.length c') (by decide) rfl
 have a4:(R0++[jZ s T Av cv]).set R0.length ((jZ s T Av cv).set 5 (G A' lv.length c'))=R0++[jZ ⟨s.f,s.chain,s.locals,s.first,s.outer,lv⟩ T A' c']:=by
  rw[Up _ _ (Q8 _),RP];rfl
 rw[a4] at p1;have ac:=h1.iU;have hc:=(h.chain.fJ hon (fun b hb=>(h.dc b hb).2)).fJ p2 (fun b hb=>(h.dc b hb).1);have hl:=(h.locals.fJ hon (fun b hb=>(h.dl b hb).2)).fJ p2 (fun b hb=>(h.dl b hb).1);have a1:=h.chain.lt;have a2:=h.locals.lt
 have hd:∀ b∈S',b∉Lm:=fun b hb hm=>by
  rcases hS b hb with h2 | h2
  ·exact h.dv b h2 hm
  ·have:=h.st.iU.2.2.1 b hm;omega
 refine⟨Lm++S',⟨A',c',S',Lm,⟨p1,hc,hl,hH.fJ p2 hd,fun b hb=>⟨(h.dc b hb).1,fun hm=>?_⟩,fun b hb=>⟨(h.dl b hb).1,fun hm=>?_⟩,hd,fun b hb=>?_⟩,rfl⟩,?_,fun b hb=>?_⟩
 ·rcases hS b hm with h2 | h2
  ·exact(h.dc b hb).2 h2
  ·have:=a1 b hb;omega
 ·rcases hS b hm with h2 | h2
  ·exact(h.dl b hb).2 h2
  ·have:=a2 b hb;omega
 ·rcases hS b hb with h2 | h2
  ·exact h.lv b h2
  ·have:=h.st.iU.2.2.2.2.size;omega
 ·exact(hon.mono (fun b hb=>Rr _ hb)).trans (p2.mono (fun b hb=>Rm _ hb))
 ·rcases Q7.1 hb with hb | hb
  ·exact .inl (Rm _ hb)
  ·exact(hS b hb).imp (fun h=>Rr _ h) id
theorem ko.row {P:jj}{T:iC}{m:fS}{R0:Q (Q Value)}{s:fG}{W:U}{Av:X Ri}{cv:Nat}{Sv Lm:Q Nat}(h:ko P T m R0 s W Av cv Sv Lm):∃ gs cs,
  QL W ⟨P.g,11,D⟩=Z (G (Z ⟨gs,0,D⟩) (R0.length+1) cs)/\QL W ⟨gs,R0.length*6,D⟩=Z (J C s.f)/\QL W ⟨gs,R0.length*6+1,D⟩=Z (G T.Ac s.chain.length T.cc)/\QL W ⟨gs,R0.length*6+2,D⟩=Z (G T.Al s.locals.length T.cl)/\QL W ⟨gs,R0.length*6+3,D⟩=Z (J C s.first)/\QL W ⟨gs,R0.length*6+4,D⟩=Z (H s.outer)/\QL W ⟨gs,R0.length*6+5,D⟩=Z (G Av s.leaves.length cv)/\gs<W.heap.size/\gs≠P.g/\(∀ j,Rb W ⟨gs,j,D⟩=I)/\gs∈Lm:=by
 have hr:(R0++[jZ s T Av cv])[R0.length]?=Z (jZ s T Av cv):=by rw[RF (Q8 _),RP];rfl
 obtain⟨gs,cs,a1,a3,a4,a5,a2,a7,a0,a6⟩:=h.st.row hr;rw[QR] at a1;exact⟨gs,cs,a1,a0 0 _ rfl,a0 1 _ rfl,a0 2 _ rfl,a0 3 _ rfl,a0 4 _ rfl,a0 5 _ rfl,a4,a5,a2,a3⟩
theorem jf.ij (h:jf P m rows W L) :
  QL W ⟨P.g,0,D⟩=Z (G P.A P.E.p.length P.c)/\QL W ⟨P.g,1,D⟩=Z (J C P.b.Frames)/\QL W ⟨P.g,2,D⟩=Z (J C P.E.inl)/\QL W ⟨P.g,5,D⟩=Z (H P.E.gV)/\QL W ⟨P.g,6,D⟩=Z (J C P.E.words)/\QL W ⟨P.g,7,D⟩=Z (J C m.gL)/\QL W ⟨P.g,8,D⟩=Z (J C P.E.args)/\QL W ⟨P.g,9,D⟩=Z (J C m.depth)/\QL W ⟨P.g,12,D⟩=Z (H m.start)/\(∀ j,Rb W ⟨P.g,j,D⟩=I)/\P.g<W.heap.size:=by
 obtain⟨Ai,ci,As,cs,z0,z1,z2,z5,z6,z7,z8,z9,a1,a2,a0,zf,zl⟩:=h.cells;exact⟨z0,z1,z2,z5,z6,z7,z8,z9,a0,zf,zl⟩
theorem jf.sr (h:jf P m rows W L):∃ Ai ci,QL W ⟨P.g,10,D⟩=Z (G Ai m.items.length ci):=by
 obtain⟨Ai,ci,As,cs,z0,z1,z2,z5,z6,z7,z8,z9,a0,a1,a2,zf,zl⟩:=h.cells;exact⟨Ai,ci,a0⟩
theorem gC.c9 (h:gC P m rows W L W'):QL W' ⟨P.g,9,D⟩=Z (J C m.depth)/\(∀ j,Rb W' ⟨P.g,j,D⟩=I)/\P.g<W'.heap.size:=by
 obtain⟨L',h1,_⟩:=h;obtain⟨z0,z1,z2,z5,z6,z7,z8,z9,a0,zf,zl⟩:=h1.ij;exact⟨z9,zf,zl⟩
theorem ko.rowAt {T:iC} {s:fG} {cs:Nat} (h:ko P T m R0 s W Av cv Sv Lm)(hz:QL W ⟨P.g,11,D⟩=Z (G (Z ⟨gs,0,D⟩) n cs)):(∀ j,Rb W ⟨gs,j,D⟩=I)/\gs≠P.g:=by
 obtain⟨a4,a3,a2,_,_,_,_,_,_,a5,a1,a0,_⟩:=h.row;rw[a2] at hz;simp only[Rv,St,UJ] at hz;obtain⟨⟨rfl,_⟩,_⟩:=hz;exact⟨a0,a1⟩
def fG.wl (s:fG)(lv:Q Int):fG:=⟨s.f,s.chain,s.locals,s.first,s.outer,lv⟩
theorem uH {g:Prop} (f:g:=by
  have HT:=fh (gg.from hWx HN.out)
  exact Rz (v:=.tuple #[]) (by simp[Rd,results212,go_sem]) rfl ⟨rfl,by rw[HQ.out];exact HT.out.num rfl (fun _ _ _ _ _ _ _ _ _=>rfl)⟩):g:=f
theorem zvJ {T:iC} {s:fG} {k:Int} {last:Bool} {QG:Q Int} {QJ:Q (Int × Int)} (h:nD P T m R0 s W L)(he:gP P.E)(hcl:s.chain.length<=1000)(hln:m.items.length<=100000)(hlv:s.leaves.length<=100000)(hd : -1000000<=m.depth/\m.depth<=1000000)(hk:fD k)(hn:R0.length<=100) :
  Rh prog 212 #[.pointer (Z ⟨P.g,0,D⟩),J C k,H last] W fun r W'=>r=.returned (.tuple #[])/\gg P T (kN P.E s k last ⟨m,s.leaves,QG,QJ⟩).m R0 (s.wl (kN P.E s k last ⟨m,s.leaves,QG,QJ⟩).leaves) W L W':=by
 obtain⟨Av,cv,Sv,Lm,hB,rfl⟩:=h;obtain⟨gs,cs,ae,s0,s1,s2,s3,s4,s5,sl,sn,sf,sL⟩:=hB.row;obtain⟨z0,z1,z2,z5,z6,z7,z8,z9,am,zf,zl⟩:=hB.st.ij;have ai:fD m.depth:=⟨by omega,by omega⟩
 have az:fD 14:=⟨by decide,by decide⟩
 have aA:fD 16:=⟨by decide,by decide⟩
 have ay:fD 10:=⟨by decide,by decide⟩
 have ax:fD 0:=⟨by decide,by decide⟩
 have ar:=he.args;have ak:=he.words;have aE:fD P.E.args:=⟨by omega,by omega⟩
 have aF:fD (P.E.args+16*P.E.words):=⟨by omega,by omega⟩
 have aO:QP C ((R0.length:Int)+1-1)=(R0.length:Int):=by rw[Td];exact iw
 have aP:QP C (m.depth-1)=m.depth-1:=iw;have aQ:QP C (16*P.E.words)=16*P.E.words:=iw;have aR:QP C (P.E.args+16*P.E.words)=P.E.args+16*P.E.words:=iw;by_cases hou:s.outer=M
 ·by_cases a4:P.E.gV=M
  ·skip
   have HQ:Hid (kN P.E s k last ⟨m,s.leaves,QG,QJ⟩=⟨(zB P.E m 14 P.E.args k s.chain).gw (m.depth-1),s.leaves,QG,QJ⟩):=fh (by unfold kN;rw[Q5 hou];rw[Q5 a4];rfl);rw[a4] at z5;rw[hou] at s4;clear a4 hou;go_enter func212,ntmps212;go_upto_region 0 with(fail);go_quiet (fail);go_upto_region 7 with(fail);refine vI 10 (by kernel_rfl) (by kernel_rfl) (fun wx hgx=>?_);have hWx:ft W wx:=ft.trans (b:=_) gF hgx;have a6:=hB.fx hWx;have x1:=za hWx s1;have x6:=za hWx z6;have x8:=za hWx z8;clear z0 z1 z2 z5 z6 z7 z8 z9 am s0 s1 s2 s3 s4 s5 ae;simp only[RN,Sd,RT,RZ]
   repeat still_step
   refine Ta ?_;go_wp2_with(first | (go_at_call 203;(with_reducible refine(zeQ a6.st a6.chain.read hcl hln az aE hk ai).mono ?_);rintro e w2 ⟨rfl,h2⟩;have HN:=fh (a6.next h2);obtain⟨y9,yf,yl⟩:=h2.c9;replace y9:QL w2 ⟨P.g,9,D⟩=Z (J C m.depth):=y9;clear h2));exact uH
  ·have a4:=UH.2 a4
   have HQ:Hid (kN P.E s k last ⟨m,s.leaves,QG,QJ⟩=⟨(zB P.E m 16 (P.E.args+16*P.E.words) k s.chain).gw (m.depth-1),s.leaves,QG,QJ⟩):=fh (by unfold kN;rw[Q5 hou];rw[QZ (by simp[a4])];rfl);rw[a4] at z5;rw[hou] at s4;clear a4 hou;go_enter func212,ntmps212;go_upto_region 0 with(fail);go_quiet (fail);go_upto_region 1 with(fail);refine vI 16 (by kernel_rfl) (by kernel_rfl) (fun wx hgx=>?_);have hWx:ft W wx:=ft.trans (b:=_) gF hgx;have a6:=hB.fx hWx;have x1:=za hWx s1;have x6:=za hWx z6;have x8:=za hWx z8;clear z0 z1 z2 z5 z6 z7 z8 z9 am s0 s1 s2 s3 s4 s5 ae;simp only[RN,Sd,RT,RZ]
   repeat still_step
   refine Ta ?_;go_wp2_with(first | (go_at_call 203;(with_reducible refine(zeQ a6.st a6.chain.read hcl hln aA aF hk ai).mono ?_);rintro e w2 ⟨rfl,h2⟩;have HN:=fh (a6.next h2);obtain⟨y9,yf,yl⟩:=h2.c9;replace y9:QL w2 ⟨P.g,9,D⟩=Z (J C m.depth):=y9;clear h2));exact uH
 ·have a3:s.outer=I:=UH.2 hou
  cases last with
  | true=>
   have HQ:Hid (kN P.E s k M ⟨m,s.leaves,QG,QJ⟩=⟨m.gw (m.depth-1),s.leaves,QG,QJ⟩):=fh (by unfold kN;rw[QZ hou,Q5 rfl];rfl);rw[a3] at s4;have HT:=fh (gg.refl (⟨Av,cv,Sv,Lm,hB,rfl⟩:nD P T m R0 s W (Lm++Sv)));clear hou a3;go_enter func212,ntmps212;go_upto_region 0 with(fail);go_quiet (fail);go_wp2_with(fail);exact Rz (v:=.tuple #[]) (by simp[Rd,results212,go_sem]) rfl ⟨rfl,by rw[HQ.out];exact(gg.num (m':=m.gw (m.depth-1)) (i:=9) (v:=J C (m.depth-1)) HT.out rfl (fun _ _ _ _ _ _ _ _ _=>rfl)).fx gF⟩
  | false=>
   have HQ:Hid (kN P.E s k I ⟨m,s.leaves,QG,QJ⟩=⟨(zB P.E m 10 0 k s.chain).gw (m.depth-1),s.leaves++[(m.items.length:Int)],QG,QJ⟩):=fh (by unfold kN;rw[QZ hou,QZ (by decide)]);rw[a3] at s4;clear hou a3;go_enter func212,ntmps212;go_upto_region 0 with(fail);go_quiet (fail);go_upto_region 4 with(fail);generalize hq:W.drewN _=W5;have a2:ft W W5:=by rw[<-hq];exact gF
   clear hq;have af:=hB.fx a2;obtain⟨n,aj⟩:∃ n,m.items.length=n:=⟨_,rfl⟩
   obtain⟨Ai,ci,al⟩:=hB.st.sr;rw[aj] at al hln;have an:=fh aj;clear aj;have q5:=za a2 s5;have a5:=za a2 al;have a1:=za a2 ae;have ac:∀ j,Rb W5 ⟨gs,j,D⟩=I:=(af.rowAt a1).1;have ad:gs<W5.heap.size:=QS sl a2.size;have au:gs∉Sv:=fun hm=>hB.dv gs hm sL;have aq:P.g∉Sv:=fun hm=>hB.dv _ hm hB.st.iU.1;clear z0 z1 z2 z5 z6 z7 z8 z9 am s0 s1 s2 s3 s4 s5 ae zf zl sf al hB;refine jT (fun w'=>QL w' ⟨gs,R0.length*6+5,D⟩=Z (G Av s.leaves.length cv)/\QL w' ⟨P.g,10,D⟩=Z (G Ai n ci)) 14 (by kernel_rfl) ⟨zc q5,zc a5⟩ (fun a0=>?_);have aa:ft W5 W5.drew:=(ft.refl W5).drew;have ah:=af.fx aa;have a1:=zc a1;have ad:=QS ad aa.size;have ac:=(ah.rowAt a1).1;have a2:=a2.trans aa;clear q5 a5 aa af;generalize W5.drew=Wd at ah a0 a1 ad ac a2 |-;have aC:=a0;obtain⟨q5,a5⟩:=aC;refine .tq 0 [14] a0 ?_;refine .tq 1 [14] a0 ?_;refine .tq 2 [14] a0 ?_;refine .tq 3 [14] a0 ?_;refine .tq 4 [14] a0 ?_;refine .tq 5 [14] a0 ?_;refine .tq 6 [14] a0 ?_;refine .tq 7 [14] a0 ?_;refine .tq 8 [14] a0 ?_;refine .tq 9 [14] a0 ?_;refine fA.gQ (i:=10) (by kernel_rfl) rfl (fun K hK=>?_)
   ·go_simp
    have a0:=QQ (zk q5 (F #[J C (n:Int)] 3)) (zk a5 (F #[J C (n:Int)] 3));refine hK.out _ _ a0 ?_;clear hK
    try simp only[lay]
    refine fA.gQ (i:=11) (by kernel_rfl) rfl (fun K hK=>?_)
    ·have a7:ft Wd (Wd.alloc (F #[J C (n:Int)] 3)):=(ft.refl _).alloc _
     have ag:=ah.fx a7;have aH:(zr).R Wd Wd.heap.size [J C (n:Int)] (n:Int):=⟨rfl,by omega,by omega⟩
     refine zW (L:=s.leaves.length+1) rfl (.tmp 47) (.tmp 53) mg zD ag.leaves aH rfl rfl rfl (by intro j u hu;simpa[go_sem] using hu) rfl (by omega) (by omega) ?_;intro A7 c7 W7 S7 a9 ao aB;have ac:=(ag.rowAt (za a7 a1)).1;have q5:=zz q5 a7 a9 au;have a5:=zz a5 a7 a9 aq;have a1:=zz a1 a7 a9 aq;have a0:=QQ q5 a5;refine hK.out _ _ a0 ?_;clear hK
     try simp only[lay]
     refine .tq 12 [13,14] a0 ?_;refine .tq 13 [14] a0 ?_;have qf:∀ j,Rb W7 ⟨gs,j,D⟩=I:=fun j=>(a9.frozen (QS ad a7.size) au j).trans (ac j);refine fA.last (by kernel_rfl) rfl (by kernel_rfl) (fun K hK=>?_);go_simp;refine hK.out _ _ ?_;clear hK
     try simp only[lay]
     have ap:=ag.leaf (lv:=s.leaves++[(n:Int)]) (A':=A7) (c':=c7) (gs:=gs) a9 (by simpa using ao) aB ⟨_,a1⟩;simp only[QR,Rc,Ru,Rk] at ap;obtain⟨L8,h8,av,aG⟩:=ap;obtain⟨aJ,aN,aL,aK,a8,rfl⟩:=h8;have ab:=xX (j:=R0.length*6+5) (u:=G A7 (s.leaves.length+1) c7) a1 (Ne.symm sn);generalize W7.setCell _ _=W8 at a8 av ab |-;clear q5 a5 a1 a0 ao;have aD:(zr.sl 3).R W8 W8.heap.size [G T.Ac s.chain.length T.cc] s.chain:=a8.chain.read;obtain⟨aw,aM,aI,t0,t1,t2,t3,t4,t5,tl,tn,tf,tL⟩:=a8.row
     obtain rfl:aw=gs:=by
      rw[aI] at ab;simp only[Rv,St,UJ] at ab;exact ab.1.1
     go_wp2_with(first | (go_at_call 203;(with_reducible refine(zeQ a8.st aD hcl (by rw[an.out];exact hln) ay ax hk ai).mono ?_);rintro e w2 ⟨rfl,h2⟩;have HN:=fh (a8.next h2);obtain⟨y9,yf,yl⟩:=h2.c9;replace y9:QL w2 ⟨P.g,9,D⟩=Z (J C m.depth):=y9;clear h2));have HT:=fh (gg.from (a2.trans a7) (gg.trans av aG HN.out));exact Rz (v:=.tuple #[]) (by simp[Rd,results212,go_sem]) rfl ⟨rfl,by rw[HQ.out,an.out];exact HT.out.num rfl (fun _ _ _ _ _ _ _ _ _=>rfl)⟩
end Go.Proofs.YthgbglbaemelhaaGreat
