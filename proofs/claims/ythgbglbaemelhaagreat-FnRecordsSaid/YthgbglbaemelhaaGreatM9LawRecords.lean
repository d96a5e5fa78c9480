/-
  PART.
-/
import Derived.Test.YthgbglbaemelhaaGreatM7LawRecords
import Derived.StillTailTactics
set_option linter.unusedVariables false
set_option linter.unusedSimpArgs false
set_option maxRecDepth 100000
set_option maxHeartbeats 8000000
namespace Go.Proofs.YthgbglbaemelhaaGreat
open Value renaming slice->J,int->C,bool->X
open IntKind renaming i64->Z,wrap->Vl
open Option renaming none->I,some->F,map_some->Xp
open Obj renaming cells->U
open Bool renaming false->M,true->H
open Go renaming World->V,results->VF,Calls->VK,Addr->VQ,TypeId->Wl,yielded->Xb,undef->Yd
open World renaming cell?->Vg,frozen?->VE,setCell->Wc
open _root_.Int renaming toNat_natCast->Vy
open List renaming length_cons->VC,length_nil->VZ,nil_append->Wo,take_succ_cons->Wz,take_zero->Xk,set_cons_zero->Zt,set_cons_succ->Zu,getElem_toArray->Zv,getElem_cons_succ->Zw,getElem_cons_zero->Zx
open Region renaming wanted->V6,ready->Wv,Mode->XY,noSelect->XV,free->YI
open RowKit renaming intOf->Wj
open _root_.Nat renaming add_zero->Wk
open Instr renaming sliceAt->Yo
open Tryz
open Go.RowKit
variable {A' Ai As Av:N VQ}{L Lm S S' Si Ss Sv:D Nat}{P:kw}{R0 rows:D (D Value)}{W W' W1 W2 w:V}{a:Act}{c' ci cs cv gs k n:Nat}{e:Wl}{f g tgt v:Int}{fs:D Int}{l:D fX}{m:gA}{r:D Value}
structure sr (P:kw):Prop where
 hp:(zS.sl 99).R P.Y P.Y.heap.size [J P.A P.E.p.length P.c] P.E.p
 hs:∀ x∈P.E.p,x.gD.length<=1099511627776/\x.Expr.length<=1099511627776
 env:iH P.E
theorem sr.hl (h:sr P):P.E.p.length<=1099511627776:=VL h.env.pc.len gv
theorem sr.up {P:kw}{W:V}(h:sr P)(hg:fy P.Y W):(zS.sl 99).R W W.heap.size [J P.A P.E.p.length P.c] P.E.p:=Ty.up _ h.hp hg
def jL (fs:D Int)(rows:D (D Value)):Prop:=rows.map (fun r=>r[0]?)=fs.map (fun f=>F (C Z f))
theorem jL.len (h:jL fs rows):rows.length=fs.length:=by
 have:=WY List.length h;simpa using this
theorem jL.at {fs:D Int}{rows:D (D Value)}(h:jL fs rows){k:Nat}{r:D Value}(hk:rows[k]?=F r):∃ f,fs[k]?=F f/\r[0]?=F (C Z f):=by
 have h1:=WY (fun l=>l[k]?) h;simp only[Xw,hk,Xp] at h1;cases hf:fs[k]? with
 | none=>rw[hf] at h1;cases h1
 | some f=>
  rw[hf] at h1;exact⟨f,rfl,by simpa using h1⟩
theorem Sd (hf:fs[k]?=F f)(h:(fs.take k).any (fun f=>decide (f=g))=M)(hfg:f≠g):(fs.take (k+1)).any (fun f=>decide (f=g))=M:=by
 rw[Wr,hf,List.any_append,h];simp[hfg]
theorem Tf (hf:fs[k]?=F f)(hfg:f=g):fs.any (fun f=>decide (f=g))=H:=by
 rw[Xs];exact⟨f,Vx hf,by simp[hfg]⟩
theorem xW {g:Prop} (f:g:=by
  go_wp2_with(fail)
  exact Vr (v:=X M) (by simp[VF,results218,go_sem]) rfl ⟨by rw[HF.out],hgA.trans gF⟩):g:=f
theorem znh (h:kj P m rows W L)(hR:sr P)(hF:jL fs rows)(hln:m.fx.length<=100000)(hn:0<rows.length/\rows.length<=100)(hg:0<=g/\g<=1000) :
  VK prog 218 #[.pointer (F ⟨P.g,0,I⟩),C Z g] W fun r W'=>r=.returned (X (oH P.E fs m g))/\fy W W':=by
 have ab:=h.jD.2.2.2.2;have hp:=hR.up ab;have hl:=hR.hl;have ai:=hR.env.pc.len;have ag:=hR.env.inl;obtain⟨e,he⟩:∃ e,jA P.E.p g=e:=⟨_,rfl⟩
 have aj : -1<=e/\e<=60:=by
  rcases yy P.E.p g with h1 | ⟨a,e',h1,h2,h3⟩
  ·omega
  ·have:=h3.len;omega
 have HE:=fk he;have aa:=hF.len;have a8:Hid (oH P.E fs m g=(decide ((rows.length:Int)-1<P.E.inl) && (decide (e-g<=9) && (decide ((m.fx.length:Int)<200) && !(fs.any fun f=>decide (f=g)))))):=fk (by unfold oH;rw[he,aa]);have ac:=fk aa;clear aa he;obtain⟨Ai,ci,Si,As,cs,Ss,hB,rfl⟩:=h;obtain⟨z0,z1,z2,z3,z4,z5,z6,z7,z8,z9,a2,a3,aq,zf,zl⟩:=pH hB.box;have an:Vl Z ((rows.length:Int)-1)=(rows.length:Int)-1:=iw;have ao:Vl Z (e-g)=e-g:=iw;by_cases c1:(rows.length:Int)-1<P.E.inl
 rotate_left
 ·have HF:Hid (oH P.E fs m g=M):=fk (by rw[a8.out,Vp c1];rfl)
  have ad:P.E.inl<=(rows.length:Int)-1:=fh;clear c1;go_enter func218,ntmps218;go_upto_region 1 with(fail);go_quiet ((first | (fail)));go_wp2_with(fail);exact Vr (v:=X M) (by simp[VF,results218,go_sem]) rfl ⟨by rw[HF.out],gG⟩
 have ad:¬ (P.E.inl<=(rows.length:Int)-1):=fh;obtain⟨d2,a4⟩:∃ b,decide (9<e-g)=b:=⟨_,rfl⟩
 obtain⟨d3,a5⟩:∃ b,decide (200<=(m.fx.length:Int))=b:=⟨_,rfl⟩
 go_enter func218,ntmps218;go_upto_region 1 with(fail);refine lO (fun w'=>Vg w' ⟨P.g,0,I⟩=F (J P.A P.E.p.length P.c)/\Vg w' ⟨P.g,2,I⟩=F (C Z P.E.inl)/\Vg w' ⟨P.g,10,I⟩=F (J Ai m.fx.length ci)/\Vg w' ⟨P.g,11,I⟩=F (J As rows.length cs)) 30 gU (Vm (zc z0) (Vm (zc z2) (Vm (zc a2) (zc a3)))) (fun hH=>?_);have a9:fy W W.drew:=(fy.refl _).drew;clear z0 z2 a2 a3;generalize W.drew=wx at a9 hH |-;obtain⟨z0,z2,a2,a3⟩:=id hH;refine .tk 0 [1,2,3,4,5,11,12,22,23,30] hH ?_;refine .tk 1 [2,3,4,5,11,12,22,23,30] hH ?_;refine .tk 2 [3,4,5,11,12,22,23,30] hH ?_;refine .tk 3 [4,5,11,12,22,23,30] hH ?_;refine .tk 4 [5,11,12,22,23,30] hH ?_;refine .tk 5 [11,12,22,23,30] hH ?_;refine .tk 6 [7,8,9,10,11,12,22,23,30] hH ?_;refine .tk 7 [8,9,10,11,12,22,23,30] hH ?_;refine .tk 8 [9,10,11,12,22,23,30] hH ?_;refine .tk 9 [10,11,12,22,23,30] hH ?_;refine .tk 10 [11,12,22,23,30] hH ?_;refine .tk 11 [12,22,23,30] hH ?_;refine .tk 12 [22,23,30] hH ?_;refine .tk 13 [14,15,16,18,23,30] hH ?_;refine .tk 14 [15,16,18,23,30] hH ?_;refine .tk 15 [16,18,23,30] hH ?_;refine .tk 16 [18,23,30] hH ?_;refine .tk 17 [18,23,30] hH ?_;refine .tk 19 [20,21,22,23,30] hH ?_;refine fL.one (i:=18) gU rfl (fun K hK=>?_);go_simp;go_at_call 160;refine(zbF (Ty.up _ hp a9) hl).mono ?_;rw[HE.out];rintro e v1 ⟨rfl,a6⟩;have a7:=a9.trans a6;have z0:=za a6 z0;have z2:=za a6 z2;have a2:=za a6 a2;have a3:=za a6 a3;refine hK.out _ _ (Vm z0 (Vm z2 (Vm a2 a3))) (fun hI=>?_);clear hK hH;have hH:=hI
 try simp only[lay]
 refine .tk 20 [21,22,23,30] hH ?_;refine .tk 21 [22,23,30] hH ?_;refine .tk 22 [23,30] hH ?_;refine .tk 23 [30] hH ?_;cases d2 with
 | true=>
  have HF:Hid (oH P.E fs m g=M):=fk (by rw[a8.out,Vp (p:=e-g<=9) (by have:=XH a4;omega)];simp);clear a4 a5;refine .sk 24 [25,26,27,28,29,30] hH ?_;refine .sk 25 [26,27,28,29,30] hH ?_;refine .sk 26 [27,28,29,30] hH ?_;refine .sk 27 [28,29,30] hH ?_;refine .sk 28 [29,30] hH ?_;refine .sk 29 [30] hH ?_;refine fL.last gU rfl gU (fun K hK=>?_);go_simp;refine hK.out _ _ ?_;clear hK
  try simp only[lay]
  have hgA:fy W _:=a7;exact xW
 | false=>
  refine .tk 24 [25,26,27,28,29,30] hH ?_;refine .tk 25 [26,27,28,29,30] hH ?_;refine .tk 26 [27,28,29,30] hH ?_;refine .tk 27 [28,29,30] hH ?_;refine .tk 28 [29,30] hH ?_;refine .tk 29 [30] hH ?_;refine fL.last gU rfl gU (fun K hK=>?_);go_simp;refine hK.out _ _ ?_;clear hK
  try simp only[lay]
  have hgA:fy W _:=a7;cases d3 with
  | true=>
   have HF:Hid (oH P.E fs m g=M):=fk (by rw[a8.out,Vp (p:=(m.fx.length:Int)<200) (by have:=XH a5;omega)];simp);clear a4 a5;exact xW
  | false=>
   have HF:Hid (oH P.E fs m g = !(fs.any fun f=>decide (f=g))):=fk (by rw[a8.out,Vv c1,Vv (p:=e-g<=9) (by have:=YG a4;omega),Vv (p:=(m.fx.length:Int)<200) (by have:=YG a5;omega)];rfl);clear a4 a5 c1;go_wp2_with(fail);go_loopw [5] (fun z wr=>∃(k:Nat),z=C Z k/\k<=rows.length/\Hid (fy W wr)/\Hid ((fs.take k).any (fun f=>decide (f=g))=M)) (fun z _=>rows.length-(Wj z).toNat)
   case atStart=>exact⟨0,rfl,Vu _,fk (hgA.trans gF),fk rfl⟩
   case round=>
    obtain⟨k,rfl,hk,hG,hA⟩:=hrel;have a1:=hG.out;have ap:=(pH (zj hB.box a1)).2.2.2.2.2.2.2.2.2.2.2.1;have yf:∀ j,VE wr ⟨P.g,j,I⟩=M:=(pH (zj hB.box a1)).2.2.2.2.2.2.2.2.2.2.2.2.2.1;by_cases hlt:k<rows.length
    ·have hr:rows[k]?=F rows[k]:=Vq hlt
     obtain⟨f,hf,h0⟩:=hF.at hr;obtain⟨gs,rfl,al,ae,ak,am,a0,_⟩:=LV hB.px hr;have x0:=za a1 (a0 0 _ h0);rw[Wk] at x0;have ah:(k:Int)<(rows.length:Int):=fh;have af:=Vn ae a1.size;by_cases hfg:f=g
     ·have hb:(f == g)=H:=V4.2 hfg
      have HT:Hid (oH P.E fs m g=M):=fk (by rw[HF.out,Tf hf hfg];rfl);clear hfg hr a0 h0;go_wp2_with(fail);exact Vr (v:=X M) (by simp[VF,results218,go_sem]) rfl ⟨by rw[HT.out],a1.trans gF⟩
     ·have hb:(f == g)=M:=Vw.2 hfg
      have HA:=fk (Sd hf hA.out hfg);clear hfg hr a0 h0;go_wp2_with(fail);go_roundw;exact⟨k+1,io,fh,fk (hG.out.trans gF),HA⟩;exact iC
    ·obtain rfl:k=rows.length:=fh
     have ah:¬ ((rows.length:Int)<(rows.length:Int)):=fh;have HT:Hid (oH P.E fs m g=H):=fk (by rw[HF.out];have h1:=hA.out;rw[ac.out,WG] at h1;rw[h1];rfl);go_wp2_with(fail);exact Vr (v:=X H) (by simp[VF,results218,go_sem]) rfl ⟨by rw[HT.out],a1.trans gF⟩
theorem yq {P:Program} {id:Nat} {Vc:Exit->Act->V->Prop} {l:D Oper} (n:Nat)(hm:P.follows .mixedOrders=H)(hB:Region.lexTailB .any l.toArray n=H)
  (h:∀ w',fy w w'->wpStill P l.toArray w' (fun a'=>wpList P l.toArray Vc (l.drop n) a' w') (l.take n) a):(Code.region id l.toArray H).wp P Vc a w:=
 wp_region_still_tail n hm hB (h w.drew ((fy.refl _).drew))
theorem kj.fz (h:kj P m rows W L):(∀ j,VE W ⟨P.g,j,I⟩=M)/\P.g<W.heap.size:=by
 obtain⟨Ai,ci,Si,As,cs,Ss,h,rfl⟩:=h;exact⟨(pH h.box).2.2.2.2.2.2.2.2.2.2.2.2.2.1,(blt h.box)⟩
def sV:Ty (Int × Int):=zv.prod zv
theorem F4:lL sV:=qH zI zI
theorem SN:(prog.info? 264).map (fun i=>(i.zero,i.size,i.bytes))=F (F (.agg #[C Z 0,C Z 0]),2,16):=gU
theorem Gg:iZ prog 261 264 sV 16:=by
 obtain⟨i0,hi,a0,a1,a2⟩:=Xt SN;exact⟨underlying261,⟨i0,_,hi,a0,a1,a2,rfl⟩,gv⟩
theorem Ur {A:N VQ} {c:Nat} {xs:D (Int × Int)} {x:Int × Int} (h:Has (sV.sl e) W [J A n c] xs S)(hx:xs[k]?=F x) :
  ∃ g,A=F ⟨g,0,I⟩/\g∈S/\g<W.heap.size/\Vg W ⟨g,k*2,I⟩=F (C Z x.1)/\Vg W ⟨g,k*2+1,I⟩=F (C Z x.2)/\fQ x.1/\fQ x.2:=by
 obtain⟨g,ec,Sc,rfl,a1,a2,_,_,_,hO,_,a0,_,_⟩:=sA h.1 h.2 hx;obtain⟨_,_,_,_,rfl,rfl,⟨rfl,b1,b2,rfl⟩,⟨rfl,b3,b4,rfl⟩⟩:=hO;exact⟨g,rfl,a1,a2,a0 0 _ rfl,a0 1 _ rfl,⟨b1,b2⟩,⟨b3,b4⟩⟩
theorem OX {es:D (Int × Int)} {e:Int × Int} (h:es[k]?=F e):n9 l (es.take (k+1)) tgt v=if e.1=tgt then mO (n9 l (es.take k) tgt v) e.2.toNat v else n9 l (es.take k) tgt v:=by
 unfold n9;rw[Wr,h,List.foldl_append];rfl
theorem zyu {es:D (Int × Int)} {Ae:N VQ} {ce:Nat} {Se:D Nat} (h:kj P m rows W L)(he:Has (sV.sl 264) W [J Ae es.length ce] es Se)(hd:∀ b∈Se,b∉L)
  (hj:∀ e∈es,iW m.fx e.2) (hln:m.fx.length<=100000) (hel:es.length<=100000) :
  VK prog 210 #[.pointer (F ⟨P.g,0,I⟩),J Ae es.length ce,C Z tgt] W fun r W'=>r=.returned (.tuple #[])/\iv P (kp m es tgt) rows W L W':=by
 have h0:=h.jD.2.1;go_enter func210,ntmps210;go_wp2_with(fail);go_loopw [6] (fun z wr=>∃(k:Nat),z=C Z k/\k<=es.length/\Hid (iv P (m.jH (n9 m.fx (es.take k) tgt m.fx.length)) rows W L wr)) (fun z _=>es.length-(Wj z).toNat)
 case atStart=>exact⟨0,rfl,Vu _,fk (iv.refl h)⟩
 case round=>
  obtain⟨k,rfl,hk,hN⟩:=hrel;by_cases hlt:k<es.length
  ·have hx:es[k]?=F es[k]:=Vq hlt
   generalize es[k]=e at hx;have am:(k:Int)<(es.length:Int):=fh;obtain⟨L1,hS,hO,hL⟩:=hN.out;obtain⟨g2,ag,aj,a6,y0,y1,b0,b1⟩:=Ur (he.gu hO hd) hx;have hP:=OX (l:=m.fx) (tgt:=tgt) (v:=m.fx.length) hx;obtain⟨a8,a0⟩:=sw (es.take k) m.fx tgt m.fx.length;have aa:=a8.jump e.2 (hj e (Vx hx));obtain⟨l,hl⟩:∃ l,n9 m.fx (es.take k) tgt m.fx.length=l:=⟨_,rfl⟩
   rw[hl] at hP hS a0 aa;obtain⟨j,x,a7,a4,_⟩:=aa;obtain⟨gi,ci,a3,ak,al,ai,ah,a1⟩:=hS.arg (m:=m.jH l) a4;obtain⟨zf,zl⟩:=hS.fz;obtain⟨n,hn⟩:∃ n,m.fx.length=n:=⟨_,rfl⟩
   have a3:Vg wr ⟨P.g,10,I⟩=F (J (F ⟨gi,0,I⟩) n ci):=by rw[a3];simp only[gA.jH,a0,hn]
   have ar:j<n:=by have:=(Vh.1 a4).1;omega
   have aq:(j:Int)<(n:Int):=fh;rw[hn] at hP hln a0;have an:fQ (n:Int):=⟨fh,fh⟩
   subst ag;by_cases hto:e.1=tgt
   ·have hb:(e.1 == tgt)=H:=V4.2 hto
    rw[a7] at y1;have HS:=fk hS;have HO:=fk (show fG L W wr from hO);have HL:=fk hL;have HP:=fk hP;have ae:=fk a4;have af:=fk hto;have ac:=fk a7;have ad:=fk a0;clear hto hP a1 hx hN hS hO he hd hj hl a8 hL a4 a7 ah;go_upto_region 4 with(fail);refine yq 17 gU gU (fun wx hgx=>?_);have a5:=HS.out.fH hgx;obtain⟨a9,ap,ab,aw,_,av,au,a2⟩:=a5.arg (m:=m.jH l) ae.out;obtain⟨xf,xl⟩:=a5.fz
    obtain rfl:a9=gi:=by
     have h9:=za hgx a3;rw[ab] at h9;simp only[VO,WP,YB] at h9;exact h9.1.1
    have ao:=za hgx a3;have ax:=za hgx y0;have ay:=za hgx y1;obtain⟨p1,p2⟩:=a2 n an
    have HN:Hid (iv P (m.jH (n9 m.fx (es.take (k+1)) tgt m.fx.length)) rows W L (wx.setCell ⟨a9,j*7+1,I⟩ (C Z (n:Int)))):=fk (by
     rw[hn,HP.out,Vs af.out,ac.out,Vy]
     exact⟨L1,p1,(HO.out.trans (hgx.only L)).then p2 HL.out,HL.out⟩)
    clear a3 y0 y1 zf zl a5 ab a2 p1 p2 ai ak a6;simp only[Wz,Xk,WR,WQ]
    repeat still_step
    refine XZ ?_;go_wp2_with(fail);go_roundw;exact⟨k+1,io,fh,HN⟩;exact iC
   ·have hb:(e.1 == tgt)=M:=Vw.2 hto
    have HN:Hid (iv P (m.jH (n9 m.fx (es.take (k+1)) tgt m.fx.length)) rows W L wr):=fk (by
     rw[hn,hP,Vo hto,<-hl]
     exact hN.out)
    clear hto hP a1 hx hN hS hO he hd hj hl a8;go_wp2_with(fail);go_roundw;exact⟨k+1,io,fh,HN⟩;exact iC
  ·obtain rfl:k=es.length:=fh
   have am:¬ ((es.length:Int)<(es.length:Int)):=fh;have HN:Hid (iv P (kp m es tgt) rows W L wr):=fk (by have h9:=hN.out;rw[WG] at h9;exact h9);go_wp2_with(fail);exact Wp (v:=.tuple #[]) (by simp[VF,results210,go_sem]) rfl ⟨rfl,HN.out⟩
theorem kj.row (h:kj P m rows W L){k:Nat}{r:D Value}(hr:rows[k]?=F r) :
  ∃ gs cs,Vg W ⟨P.g,11,I⟩=F (J (F ⟨gs,0,I⟩) rows.length cs)/\gs∈L/\gs<W.heap.size/\gs≠P.g/\(∀ j,VE W ⟨gs,j,I⟩=M)/\r.length=6/\(∀ j u,r[j]?=F u->Vg W ⟨gs,k*6+j,I⟩=F u)/\
   ∀ j u,j<6->u.oneCell'=H->kj P m (rows.set k (r.set j u)) (W.setCell ⟨gs,k*6+j,I⟩ u) L/\fG L W (W.setCell ⟨gs,k*6+j,I⟩ u):=by
 obtain⟨Ai,ci,Si,As,cs,Ss,h,rfl⟩:=h;obtain⟨gs,rfl,a2,a4,a3,a5,a0,a1⟩:=LV h.px hr;refine⟨gs,cs,(pH h.box).2.2.2.2.2.2.2.2.2.2.2.1,by simp[a2],a4,fun e=>h.gn.2 (e ▸ a2),a3,a5,a0,fun j u hj hu=>?_⟩;obtain⟨h1,h2⟩:=a1 j u hj hu;refine⟨⟨Ai,ci,Si,F ⟨gs,0,I⟩,cs,Ss,⟨?_,h.iM.gu h2 (fun b hb hm=>h.lG b hb hm),by rw[VY];exact h1,h.lG,h.gn,h2.fH h.fH h.low.2.2,h.low⟩,rfl⟩,h2.mono (fun b hb=>by simp[hb])⟩;rw[VY];exact(h2.block P.g (blt h.box) h.gn.2).trans h.box
theorem kj.gu {P:kw}{m:gA}{rows:D (D Value)}{W W':V}{L S:D Nat}(h:kj P m rows W L)(ho:fG S W W')(hS:∀ b∈S,b∉L/\P.Y.heap.size<=b):kj P m rows W' L:=by
 obtain⟨Ai,ci,Si,As,cs,Ss,h,rfl⟩:=h;exact⟨Ai,ci,Si,As,cs,Ss,h.gu ho (fun b hb=>⟨fun e=>(hS b hb).1 (by simp[e]),fun hm=>(hS b hb).1 (by simp[hm]),fun hm=>(hS b hb).1 (by simp[hm]),(hS b hb).2⟩),rfl⟩
structure jy where
 Ac:N VQ
 cc:Nat
 Sc:D Nat
 Al:N VQ
 cl:Nat
 Sl:D Nat
def lR (s:fV)(T:jy)(Av:N VQ)(cv:Nat):D Value:=[C Z s.f,J T.Ac s.ft.length T.cc,J T.Al s.fM.length T.cl,C Z s.first,X s.iu,J Av s.fI.length cv]
structure lV (P:kw)(T:jy)(m:gA)(R0:D (D Value))(s:fV)(W:V)(Av:N VQ)(cv:Nat)(Sv Lm:D Nat):Prop where
 st:kj P m (R0++[lR s T Av cv]) W Lm
 ft:Has (zv.sl 3) W [J T.Ac s.ft.length T.cc] s.ft T.Sc
 fM:Has (jB.sl 9) W [J T.Al s.fM.length T.cl] s.fM T.Sl
 fI:Has (zv.sl 3) W [J Av s.fI.length cv] s.fI Sv
 dc:∀ b∈T.Sc,b∉Lm/\b∉Sv
 dl:∀ b∈T.Sl,b∉Lm/\b∉Sv
 dv:∀ b∈Sv,b∉Lm
 lv:∀ b∈Sv,P.Y.heap.size<=b
def pN (P:kw)(T:jy)(m:gA)(R0:D (D Value))(s:fV)(W:V)(L:D Nat):Prop:=∃ Av cv Sv Lm,lV P T m R0 s W Av cv Sv Lm/\L=Lm++Sv
def ia (P:kw)(T:jy)(m':gA)(R0:D (D Value))(s':fV)(W:V)(L:D Nat)(W':V):Prop:=∃ L',pN P T m' R0 s' W' L'/\fG L W W'/\∀ b∈L',b∈L∨W.heap.size<=b
theorem Ar {L':D Nat} (h:∀ b∈S,b∉L)(hl:∀ b∈S,b<W.heap.size)(hL:∀ b∈L',b∈L∨W.heap.size<=b):∀ b∈S,b∉L':=fun b hb hm=>by
 rcases hL b hm with h1 | h1
 ·exact h b hb h1
 ·have:=hl b hb;omega
theorem lV.fH {P:kw}{T:jy}{m:gA}{R0:D (D Value)}{s:fV}{W W':V}{Av:N VQ}{cv:Nat}{Sv Lm:D Nat}(h:lV P T m R0 s W Av cv Sv Lm)(hg:fy W W'):lV P T m R0 s W' Av cv Sv Lm:=
 ⟨h.st.fH hg,h.ft.fH hg,h.fM.fH hg,h.fI.fH hg,h.dc,h.dl,h.dv,h.lv⟩
theorem pN.fH {P:kw}{T:jy}{m:gA}{R0:D (D Value)}{s:fV}{W W':V}{L:D Nat}(h:pN P T m R0 s W L)(hg:fy W W'):pN P T m R0 s W' L:=by
 obtain⟨Av,cv,Sv,Lm,h,rfl⟩:=h;exact⟨Av,cv,Sv,Lm,h.fH hg,rfl⟩
theorem ia.refl {P:kw}{T:jy}{m:gA}{R0:D (D Value)}{s:fV}{W:V}{L:D Nat}(h:pN P T m R0 s W L):ia P T m R0 s W L W:=⟨L,h,fG.refl _ _,fun _ hb=>.inl hb⟩
theorem ia.fH {P:kw}{T:jy}{m:gA}{R0:D (D Value)}{s:fV}{W W' W2:V}{L:D Nat}(h:ia P T m R0 s W L W')(hg:fy W' W2):ia P T m R0 s W L W2:=by
 obtain⟨L',h1,h2,h3⟩:=h;exact⟨L',h1.fH hg,h2.trans (hg.only L),h3⟩
theorem ia.from {T:jy} {s:fV} (hg:fy W W1)(h:ia P T m R0 s W1 L W2):ia P T m R0 s W L W2:=by
 exact xZ
theorem ia.trans {T:jy} {m2:gA} {s2:fV} {L1:D Nat} (ho:fG L W W1)(hl:∀ b∈L1,b∈L∨W.heap.size<=b)(k:ia P T m2 R0 s2 W1 L1 W2):ia P T m2 R0 s2 W L W2:=by
 exact xK
theorem lV.next {T:jy} {m':gA} {s:fV} (h:lV P T m R0 s W Av cv Sv Lm)(k:iv P m' (R0++[lR s T Av cv]) W Lm W'):ia P T m' R0 s W (Lm++Sv) W':=by
 obtain⟨L',h1,h2,h3⟩:=k;refine⟨L'++Sv,⟨Av,cv,Sv,L',⟨h1,h.ft.gu h2 (fun b hb=>(h.dc b hb).1),h.fM.gu h2 (fun b hb=>(h.dl b hb).1),h.fI.gu h2 h.dv,fun b hb=>⟨Ar (fun b hb=>(h.dc b hb).1) h.ft.lt h3 b hb,(h.dc b hb).2⟩,fun b hb=>⟨Ar (fun b hb=>(h.dl b hb).1) h.fM.lt h3 b hb,(h.dl b hb).2⟩,Ar h.dv h.fI.lt h3,h.lv⟩,rfl⟩,h2.mono (fun b hb=>VN _ hb),fun b hb=>?_⟩;rcases VA.1 hb with hb | hb
 ·exact(h3 b hb).imp (fun h=>VN _ h) id
 ·exact .inl (VV _ hb)
theorem lV.num {P:kw}{T:jy}{m m':gA}{R0:D (D Value)}{s:fV}{W:V}{Av:N VQ}{cv:Nat}{Sv Lm:D Nat}(h:lV P T m R0 s W Av cv Sv Lm){i:Nat}{v:Value}(hi:m'.fx=m.fx)
  (hrow:∀ a b c d e f g x y,(#[a,b,c,d,e,f,g,C Z m.most,C Z P.E.args,C Z m.fv,x,y,X m.start]:Array Value).setIfInBounds i v=#[a,b,c,d,e,f,g,C Z m'.most,C Z P.E.args,C Z m'.fv,x,y,X m'.start]) :
  ia P T m' R0 s W (Lm++Sv) (W.setCell ⟨P.g,i,I⟩ v):=h.next ((iv.refl h.st).num hi hrow)
theorem ia.num {P:kw}{T:jy}{m m':gA}{R0:D (D Value)}{s:fV}{W W':V}{L:D Nat}(h:ia P T m R0 s W L W'){i:Nat}{v:Value}(hi:m'.fx=m.fx)
  (hrow:∀ a b c d e f g x y,(#[a,b,c,d,e,f,g,C Z m.most,C Z P.E.args,C Z m.fv,x,y,X m.start]:Array Value).setIfInBounds i v=#[a,b,c,d,e,f,g,C Z m'.most,C Z P.E.args,C Z m'.fv,x,y,X m'.start]) :
  ia P T m' R0 s W L (W'.setCell ⟨P.g,i,I⟩ v):=by
 obtain⟨L',⟨Av,cv,Sv,Lm,h,rfl⟩,h2,h3⟩:=h;exact ia.trans h2 h3 (h.num hi hrow)
theorem lV.leaf {T:jy} {s:fV} {lv:D Int} (h:lV P T m R0 s W Av cv Sv Lm)(hon:fG Sv W W')(hH:Has (zv.sl 3) W' [J A' lv.length c'] lv S')(hS:∀ b∈S',b∈Sv∨W.heap.size<=b)
  (hz:∃ cs,Vg W' ⟨P.g,11,I⟩=F (J (F ⟨gs,0,I⟩) (R0.length+1) cs)) :
  ia P T m R0 ⟨s.f,s.ft,s.fM,s.first,s.iu,lv⟩ W (Lm++Sv) (W'.setCell ⟨gs,R0.length*6+5,I⟩ (J A' lv.length c')):=by
 obtain⟨cs,hz⟩:=hz;have h1:=h.st.gu hon (fun b hb=>⟨h.dv b hb,h.lv b hb⟩);have hr:(R0++[lR s T Av cv])[R0.length]?=F (lR s T Av cv):=by rw[VX (Vz _),Ws];rfl
 obtain⟨a5,a7,a6,a9,aa,ab,a8,ad,a0,a3⟩:=h1.row hr
 obtain rfl:a5=gs:=by
  rw[a6] at hz;simp only[VO,WP,YB] at hz;exact hz.1.1
 obtain⟨p1,p2⟩:=a3 5 (J A' lv.length c') (by decide) rfl
 have a4:(R0++[lR s T Av cv]).set R0.length ((lR s T Av cv).set 5 (J A' lv.length c'))=R0++[lR ⟨s.f,s.ft,s.fM,s.first,s.iu,lv⟩ T A' c']:=by
  rw[YQ _ _ (Vz _),Ws];rfl
 rw[a4] at p1;have ac:=h1.jD;have hc:=(h.ft.gu hon (fun b hb=>(h.dc b hb).2)).gu p2 (fun b hb=>(h.dc b hb).1);have hl:=(h.fM.gu hon (fun b hb=>(h.dl b hb).2)).gu p2 (fun b hb=>(h.dl b hb).1);have a1:=h.ft.lt;have a2:=h.fM.lt
 have hd:∀ b∈S',b∉Lm:=fun b hb hm=>by
  rcases hS b hb with h2 | h2
  ·exact h.dv b h2 hm
  ·have:=h.st.jD.2.2.1 b hm;omega
 refine⟨Lm++S',⟨A',c',S',Lm,⟨p1,hc,hl,hH.gu p2 hd,fun b hb=>⟨(h.dc b hb).1,fun hm=>?_⟩,fun b hb=>⟨(h.dl b hb).1,fun hm=>?_⟩,hd,fun b hb=>?_⟩,rfl⟩,?_,fun b hb=>?_⟩
 ·rcases hS b hm with h2 | h2
  ·exact(h.dc b hb).2 h2
  ·have:=a1 b hb;omega
 ·rcases hS b hm with h2 | h2
  ·exact(h.dl b hb).2 h2
  ·have:=a2 b hb;omega
 ·rcases hS b hb with h2 | h2
  ·exact h.lv b h2
  ·have:=h.st.jD.2.2.2.2.size;omega
 ·exact(hon.mono (fun b hb=>VV _ hb)).trans (p2.mono (fun b hb=>VN _ hb))
 ·rcases VA.1 hb with hb | hb
  ·exact .inl (VN _ hb)
  ·exact(hS b hb).imp (fun h=>VV _ h) id
theorem lV.row {P:kw}{T:jy}{m:gA}{R0:D (D Value)}{s:fV}{W:V}{Av:N VQ}{cv:Nat}{Sv Lm:D Nat}(h:lV P T m R0 s W Av cv Sv Lm):∃ gs cs,
  Vg W ⟨P.g,11,I⟩=F (J (F ⟨gs,0,I⟩) (R0.length+1) cs)/\Vg W ⟨gs,R0.length*6,I⟩=F (C Z s.f)/\Vg W ⟨gs,R0.length*6+1,I⟩=F (J T.Ac s.ft.length T.cc)/\Vg W ⟨gs,R0.length*6+2,I⟩=F (J T.Al s.fM.length T.cl)/\Vg W ⟨gs,R0.length*6+3,I⟩=F (C Z s.first)/\Vg W ⟨gs,R0.length*6+4,I⟩=F (X s.iu)/\Vg W ⟨gs,R0.length*6+5,I⟩=F (J Av s.fI.length cv)/\gs<W.heap.size/\gs≠P.g/\(∀ j,VE W ⟨gs,j,I⟩=M)/\gs∈Lm:=by
 have hr:(R0++[lR s T Av cv])[R0.length]?=F (lR s T Av cv):=by rw[VX (Vz _),Ws];rfl
 obtain⟨gs,cs,a1,a3,a4,a5,a2,a7,a0,a6⟩:=h.st.row hr;rw[Vk] at a1;exact⟨gs,cs,a1,a0 0 _ rfl,a0 1 _ rfl,a0 2 _ rfl,a0 3 _ rfl,a0 4 _ rfl,a0 5 _ rfl,a4,a5,a2,a3⟩
theorem kj.jl (h:kj P m rows W L) :
  Vg W ⟨P.g,0,I⟩=F (J P.A P.E.p.length P.c)/\Vg W ⟨P.g,1,I⟩=F (C Z P.b.gW)/\Vg W ⟨P.g,2,I⟩=F (C Z P.E.inl)/\Vg W ⟨P.g,5,I⟩=F (X P.E.gT)/\Vg W ⟨P.g,6,I⟩=F (C Z P.E.fO)/\Vg W ⟨P.g,7,I⟩=F (C Z m.most)/\Vg W ⟨P.g,8,I⟩=F (C Z P.E.args)/\Vg W ⟨P.g,9,I⟩=F (C Z m.fv)/\Vg W ⟨P.g,12,I⟩=F (X m.start)/\(∀ j,VE W ⟨P.g,j,I⟩=M)/\P.g<W.heap.size:=by
 obtain⟨Ai,ci,As,cs,z0,z1,z2,z5,z6,z7,z8,z9,a1,a2,a0,zf,zl⟩:=h.cells;exact⟨z0,z1,z2,z5,z6,z7,z8,z9,a0,zf,zl⟩
theorem kj.uL (h:kj P m rows W L):∃ Ai ci,Vg W ⟨P.g,10,I⟩=F (J Ai m.fx.length ci):=by
 obtain⟨Ai,ci,As,cs,z0,z1,z2,z5,z6,z7,z8,z9,a0,a1,a2,zf,zl⟩:=h.cells;exact⟨Ai,ci,a0⟩
theorem iv.c9 (h:iv P m rows W L W'):Vg W' ⟨P.g,9,I⟩=F (C Z m.fv)/\(∀ j,VE W' ⟨P.g,j,I⟩=M)/\P.g<W'.heap.size:=by
 obtain⟨L',h1,_⟩:=h;obtain⟨z0,z1,z2,z5,z6,z7,z8,z9,a0,zf,zl⟩:=h1.jl;exact⟨z9,zf,zl⟩
theorem lV.rowAt {T:jy} {s:fV} (h:lV P T m R0 s W Av cv Sv Lm)(hz:Vg W ⟨P.g,11,I⟩=F (J (F ⟨gs,0,I⟩) n cs)):(∀ j,VE W ⟨gs,j,I⟩=M)/\gs≠P.g:=by
 obtain⟨a4,a3,a2,_,_,_,_,_,_,a5,a1,a0,_⟩:=h.row;rw[a2] at hz;simp only[VO,WP,YB] at hz;obtain⟨⟨rfl,_⟩,_⟩:=hz;exact⟨a0,a1⟩
def fV.wl (s:fV)(lv:D Int):fV:=⟨s.f,s.ft,s.fM,s.first,s.iu,lv⟩
theorem xu {g:Prop} (f:g:=by
  have HT:=fk (ia.from hWx HN.out)
  exact Wp (v:=.tuple #[]) (by simp[VF,results212,go_sem]) rfl ⟨rfl,by rw[HQ.out];exact HT.out.num rfl (fun _ _ _ _ _ _ _ _ _=>rfl)⟩):g:=f
theorem zyn {T:jy} {s:fV} {k:Int} {last:Bool} {U9:D Int} {Vb:D (Int × Int)} (h:pN P T m R0 s W L)(he:iH P.E)(hcl:s.ft.length<=1000)(hln:m.fx.length<=100000)(hlv:s.fI.length<=100000)(hd : -1000000<=m.fv/\m.fv<=1000000)(hk:fQ k)(hn:R0.length<=100) :
  VK prog 212 #[.pointer (F ⟨P.g,0,I⟩),C Z k,X last] W fun r W'=>r=.returned (.tuple #[])/\ia P T (lH P.E s k last ⟨m,s.fI,U9,Vb⟩).m R0 (s.wl (lH P.E s k last ⟨m,s.fI,U9,Vb⟩).fI) W L W':=by
 obtain⟨Av,cv,Sv,Lm,hB,rfl⟩:=h;obtain⟨gs,cs,ae,s0,s1,s2,s3,s4,s5,sl,sn,sf,sL⟩:=hB.row;obtain⟨z0,z1,z2,z5,z6,z7,z8,z9,am,zf,zl⟩:=hB.st.jl;have ai:fQ m.fv:=⟨fh,fh⟩
 have az:fQ 14:=⟨gv,gv⟩
 have aA:fQ 16:=⟨gv,gv⟩
 have ay:fQ 10:=⟨gv,gv⟩
 have ax:fQ 0:=⟨gv,gv⟩
 have ar:=he.args;have ak:=he.fO;have aE:fQ P.E.args:=⟨fh,fh⟩
 have aF:fQ (P.E.args+16*P.E.fO):=⟨fh,fh⟩
 have aO:Vl Z ((R0.length:Int)+1-1)=(R0.length:Int):=by rw[XM];exact iw
 have aP:Vl Z (m.fv-1)=m.fv-1:=iw;have aQ:Vl Z (16*P.E.fO)=16*P.E.fO:=iw;have aR:Vl Z (P.E.args+16*P.E.fO)=P.E.args+16*P.E.fO:=iw;by_cases hou:s.iu=H
 ·by_cases a4:P.E.gT=H
  ·skip
   have HQ:Hid (lH P.E s k last ⟨m,s.fI,U9,Vb⟩=⟨(zC P.E m 14 P.E.args k s.ft).gR (m.fv-1),s.fI,U9,Vb⟩):=fk (by unfold lH;rw[Vs hou];rw[Vs a4];rfl);rw[a4] at z5;rw[hou] at s4;clear a4 hou;go_enter func212,ntmps212;go_upto_region 0 with(fail);go_quiet (fail);go_upto_region 7 with(fail);refine yq 10 gU gU (fun wx hgx=>?_);have hWx:fy W wx:=fy.trans (b:=_) gF hgx;have a6:=hB.fH hWx;have x1:=za hWx s1;have x6:=za hWx z6;have x8:=za hWx z8;clear z0 z1 z2 z5 z6 z7 z8 z9 am s0 s1 s2 s3 s4 s5 ae;simp only[Wz,Xk,WR,WQ]
   repeat still_step
   refine XZ ?_;go_wp2_with(first | (go_at_call 203;refine(zfL a6.st a6.ft.read hcl hln az aE hk ai).mono ?_;rintro e w2 ⟨rfl,h2⟩;have HN:=fk (a6.next h2);obtain⟨y9,yf,yl⟩:=h2.c9;replace y9:Vg w2 ⟨P.g,9,I⟩=F (C Z m.fv):=y9;clear h2));exact xu
  ·have a4:=Zg.2 a4
   have HQ:Hid (lH P.E s k last ⟨m,s.fI,U9,Vb⟩=⟨(zC P.E m 16 (P.E.args+16*P.E.fO) k s.ft).gR (m.fv-1),s.fI,U9,Vb⟩):=fk (by unfold lH;rw[Vs hou];rw[Vo (by simp[a4])];rfl);rw[a4] at z5;rw[hou] at s4;clear a4 hou;go_enter func212,ntmps212;go_upto_region 0 with(fail);go_quiet (fail);go_upto_region 1 with(fail);refine yq 16 gU gU (fun wx hgx=>?_);have hWx:fy W wx:=fy.trans (b:=_) gF hgx;have a6:=hB.fH hWx;have x1:=za hWx s1;have x6:=za hWx z6;have x8:=za hWx z8;clear z0 z1 z2 z5 z6 z7 z8 z9 am s0 s1 s2 s3 s4 s5 ae;simp only[Wz,Xk,WR,WQ]
   repeat still_step
   refine XZ ?_;go_wp2_with(first | (go_at_call 203;refine(zfL a6.st a6.ft.read hcl hln aA aF hk ai).mono ?_;rintro e w2 ⟨rfl,h2⟩;have HN:=fk (a6.next h2);obtain⟨y9,yf,yl⟩:=h2.c9;replace y9:Vg w2 ⟨P.g,9,I⟩=F (C Z m.fv):=y9;clear h2));exact xu
 ·have a3:s.iu=M:=Zg.2 hou
  cases last with
  | true=>
   have HQ:Hid (lH P.E s k H ⟨m,s.fI,U9,Vb⟩=⟨m.gR (m.fv-1),s.fI,U9,Vb⟩):=fk (by unfold lH;rw[Vo hou,Vs rfl];rfl);rw[a3] at s4;have HT:=fk (ia.refl (⟨Av,cv,Sv,Lm,hB,rfl⟩:pN P T m R0 s W (Lm++Sv)));clear hou a3;go_enter func212,ntmps212;go_upto_region 0 with(fail);go_quiet (fail);go_wp2_with(fail);exact Wp (v:=.tuple #[]) (by simp[VF,results212,go_sem]) rfl ⟨rfl,by rw[HQ.out];exact(ia.num (m':=m.gR (m.fv-1)) (i:=9) (v:=C Z (m.fv-1)) HT.out rfl (fun _ _ _ _ _ _ _ _ _=>rfl)).fH gF⟩
  | false=>
   have HQ:Hid (lH P.E s k M ⟨m,s.fI,U9,Vb⟩=⟨(zC P.E m 10 0 k s.ft).gR (m.fv-1),s.fI++[(m.fx.length:Int)],U9,Vb⟩):=fk (by unfold lH;rw[Vo hou,Vo gv]);rw[a3] at s4;clear hou a3;go_enter func212,ntmps212;go_upto_region 0 with(fail);go_quiet (fail);go_upto_region 4 with(fail);generalize hq:W.drewN _=W5;have a2:fy W W5:=by rw[<-hq];exact gF
   clear hq;have af:=hB.fH a2;obtain⟨n,aj⟩:∃ n,m.fx.length=n:=⟨_,rfl⟩
   obtain⟨Ai,ci,al⟩:=hB.st.uL;rw[aj] at al hln;have an:=fk aj;clear aj;have q5:=za a2 s5;have a5:=za a2 al;have a1:=za a2 ae;have ac:∀ j,VE W5 ⟨gs,j,I⟩=M:=(af.rowAt a1).1;have ad:gs<W5.heap.size:=Vn sl a2.size;have au:gs∉Sv:=fun hm=>hB.dv gs hm sL;have aq:P.g∉Sv:=fun hm=>hB.dv _ hm hB.st.jD.1;clear z0 z1 z2 z5 z6 z7 z8 z9 am s0 s1 s2 s3 s4 s5 ae zf zl sf al hB;refine lO (fun w'=>Vg w' ⟨gs,R0.length*6+5,I⟩=F (J Av s.fI.length cv)/\Vg w' ⟨P.g,10,I⟩=F (J Ai n ci)) 14 gU ⟨zc q5,zc a5⟩ (fun a0=>?_);have aa:fy W5 W5.drew:=(fy.refl W5).drew;have ah:=af.fH aa;have a1:=zc a1;have ad:=Vn ad aa.size;have ac:=(ah.rowAt a1).1;have a2:=a2.trans aa;clear q5 a5 aa af;generalize W5.drew=Wd at ah a0 a1 ad ac a2 |-;have aC:=a0;obtain⟨q5,a5⟩:=aC;refine .tq 0 [14] a0 ?_;refine .tq 1 [14] a0 ?_;refine .tq 2 [14] a0 ?_;refine .tq 3 [14] a0 ?_;refine .tq 4 [14] a0 ?_;refine .tq 5 [14] a0 ?_;refine .tq 6 [14] a0 ?_;refine .tq 7 [14] a0 ?_;refine .tq 8 [14] a0 ?_;refine .tq 9 [14] a0 ?_;refine fL.iQ (i:=10) gU rfl (fun K hK=>?_)
   ·go_simp
    have a0:=Vm (zq q5 (U #[C Z (n:Int)] 3)) (zq a5 (U #[C Z (n:Int)] 3));refine hK.out _ _ a0 ?_;clear hK
    try simp only[lay]
    refine fL.iQ (i:=11) gU rfl (fun K hK=>?_)
    ·have a7:fy Wd (Wd.alloc (U #[C Z (n:Int)] 3)):=(fy.refl _).alloc _
     have ag:=ah.fH a7;have aH:(zv).R Wd Wd.heap.size [C Z (n:Int)] (n:Int):=⟨rfl,fh,fh⟩
     refine sv (L:=s.fI.length+1) rfl (.tmp 47) (.tmp 53) me zI ag.fI aH rfl rfl rfl (by intro j u hu;simpa[go_sem] using hu) rfl fh fh ?_;intro A7 c7 W7 S7 a9 ao aB;have ac:=(ag.rowAt (za a7 a1)).1;have q5:=zE q5 a7 a9 au;have a5:=zE a5 a7 a9 aq;have a1:=zE a1 a7 a9 aq;have a0:=Vm q5 a5;refine hK.out _ _ a0 ?_;clear hK
     try simp only[lay]
     refine .tq 12 [13,14] a0 ?_;refine .tq 13 [14] a0 ?_;have qf:∀ j,VE W7 ⟨gs,j,I⟩=M:=fun j=>(a9.frozen (Vn ad a7.size) au j).trans (ac j);refine fL.last gU rfl gU (fun K hK=>?_);go_simp;refine hK.out _ _ ?_;clear hK
     try simp only[lay]
     have ap:=ag.leaf (lv:=s.fI++[(n:Int)]) (A':=A7) (c':=c7) (gs:=gs) a9 (by simpa using ao) aB ⟨_,a1⟩;simp only[Vk,VC,VZ,VJ] at ap;obtain⟨L8,h8,av,aG⟩:=ap;obtain⟨aJ,aN,aL,aK,a8,rfl⟩:=h8;have ab:=BL (j:=R0.length*6+5) (u:=J A7 (s.fI.length+1) c7) a1 (Ne.symm sn);generalize W7.setCell _ _=W8 at a8 av ab |-;clear q5 a5 a1 a0 ao;have aD:(zv.sl 3).R W8 W8.heap.size [J T.Ac s.ft.length T.cc] s.ft:=a8.ft.read;obtain⟨aw,aM,aI,t0,t1,t2,t3,t4,t5,tl,tn,tf,tL⟩:=a8.row
     obtain rfl:aw=gs:=by
      rw[aI] at ab;simp only[VO,WP,YB] at ab;exact ab.1.1
     go_wp2_with(first | (go_at_call 203;(with_reducible refine(zfL a8.st aD hcl (by rw[an.out];exact hln) ay ax hk ai).mono ?_);rintro e w2 ⟨rfl,h2⟩;have HN:=fk (a8.next h2);obtain⟨y9,yf,yl⟩:=h2.c9;replace y9:Vg w2 ⟨P.g,9,I⟩=F (C Z m.fv):=y9;clear h2));have HT:=fk (ia.from (a2.trans a7) (ia.trans av aG HN.out));exact Wp (v:=.tuple #[]) (by simp[VF,results212,go_sem]) rfl ⟨rfl,by rw[HQ.out,an.out];exact HT.out.num rfl (fun _ _ _ _ _ _ _ _ _=>rfl)⟩
section
variable {P:Program} {ops:Array Oper} {Vc:Exit->Act->V->Prop} {md:XY} {S:V->Prop} {m:Nat}
def rR (U8:D Nat)(listed:Array Bool):Nat:=(U8.filter fun i=>!listed.getD i H).length
theorem LD:∀(U8:D Nat){listed:Array Bool}{i:Nat},U8.Nodup->i∈U8->listed.getD i H=M->rR U8 (listed.setIfInBounds i H)+1=rR U8 listed
 | [],_,_,_,h,_=>by cases h
 | j::U8,listed,i,hN,h,hi=>by
  obtain⟨hj,hN⟩:=X8.1 hN;unfold rR;by_cases hji:j=i
  ·subst hji
   have h1:U8.filter (fun k=>!(listed.setIfInBounds j H).getD k H)=U8.filter (fun k=>!listed.getD k H):=by
    refine List.filter_congr (fun k hk=>?_);rw[Zo H (show j≠k from fun h=>hj (h ▸ hk))]
   have h2:(listed.setIfInBounds j H).getD j H=H:=by
    rcases Y4 j listed.size with h' | h'
    ·simp[h']
    ·simp[Xq h'] at hi
   rw[XD,XD,h2,hi,h1];rfl
  ·have hm:i∈U8:=by
    rcases VT.1 h with h | h
    ·exact absurd h.symm hji
    ·exact h
   have h1:=LD U8 hN hm hi;unfold rR at h1;rw[XD,XD,Zo H (Ne.symm hji)];split
   ·simp only[VC];omega
   ·exact h1
theorem fL.inv (U8:D Nat)(U5:Array Bool->Act->V->Prop)(c:Nat)(hM:U8.Nodup)
  (hs:∀ listed a w,U5 listed a w->0<rR U8 listed->Wv md ops listed≠[]/\∀ i∈Wv md ops listed,i∈U8/\wpOp P ops Vc i (fun a' w'=>(i≠m->S w')/\U5 (listed.setIfInBounds i H) a' w') a w)
  (he:∀ listed a w,U5 listed a w->rR U8 listed=0->fL P md ops Vc S m c listed a w) :
  ∀(k:Nat) (listed:Array Bool) (a:Act) (w:V),rR U8 listed=k->U5 listed a w->fL P md ops Vc S m (k+c) listed a w:=by
 intro k;induction k with
 | zero=>
  intro listed a w hk h;rw[VJ];exact he listed a w h hk
 | succ k ih=>
  intro listed a w hk h;obtain⟨h1,h2⟩:=hs listed a w h (by omega);rw[show k+1+c=(k+c)+1 from by omega];refine⟨fun h0=>absurd h0 h1,fun i hi=>?_⟩;obtain⟨h3,h4⟩:=h2 i hi;refine wpOp_mono (fun a' w' h5=>⟨h5.1,ih _ _ _ ?_ h5.2⟩) h4;have h6:=LD U8 hM h3 (mem_ready.1 hi).1;omega
theorem fL.DR (U8:D Nat)(U5:Array Bool->Act->V->Prop)(R:Array Bool->D Nat)(c:Nat)(hM:U8.Nodup)
  (hr:∀ listed a w,U5 listed a w->0<rR U8 listed->Wv md ops listed=R listed/\R listed≠[]/\∀ i∈R listed,i∈U8)
  (hs:∀ listed a w i,U5 listed a w->i∈R listed->wpOp P ops Vc i (fun a' w'=>(i≠m->S w')/\U5 (listed.setIfInBounds i H) a' w') a w)
  (he:∀ listed a w,U5 listed a w->rR U8 listed=0->fL P md ops Vc S m c listed a w) :
  ∀(k:Nat) (listed:Array Bool) (a:Act) (w:V),rR U8 listed=k->U5 listed a w->fL P md ops Vc S m (k+c) listed a w:=
 fL.inv U8 U5 c hM (fun listed a w hI hu=>by
  obtain⟨h1,h2,h3⟩:=hr listed a w hI hu;rw[h1]
  exact⟨h2,fun i hi=>⟨h3 i hi,hs listed a w i hI hi⟩⟩) he
theorem fL.DS (U8:D Nat)(U5:Act->Array Bool->Act->V->Prop)(R:Array Bool->D Nat)(c k:Nat)(hM:U8.Nodup){listed:Array Bool}{a0:Act}{w0:V}
  (hr:∀ listed a w,U5 a0 listed a w->0<rR U8 listed->Wv md ops listed=R listed/\R listed≠[]/\∀ i∈R listed,i∈U8)
  (hs:∀ listed a w i,U5 a0 listed a w->i∈R listed->wpOp P ops Vc i (fun a' w'=>(i≠m->S w')/\U5 a0 (listed.setIfInBounds i H) a' w') a w)
  (he:∀ listed a w,U5 a0 listed a w->rR U8 listed=0->fL P md ops Vc S m c listed a w) (hk:rR U8 listed=k) (h0:U5 a0 listed a0 w0):fL P md ops Vc S m (k+c) listed a0 w0:=
 fL.DR U8 (U5 a0) R c hM hr hs he k listed a0 w0 hk h0
theorem Db {α:Type} {T:Ty α} {v:Value} {xs:D α} {S:D Nat} (h:Has (T.sl e) W [v] xs S):∃ A c,v=J A xs.length c:=by
 obtain⟨A,c,_,_,hv,_⟩:=h.1;injection hv with hv _
 exact⟨A,c,hv⟩
theorem yF {i:Nat} {o:Oper} {R:Act->V->Prop} (ho:ops[i]?=F o)
  (h:∀ K:Act->V->Prop,Hid (∀ a w,R a w->K a w)->if V6 o (Xb ops a.tmps)=H then Oper.wp P o a w K Vc else K (a.put o.dst Yd) w):wpOp P ops Vc i R a w:=
 wpOp_step ho (fun K hK=>h K (fk fun a w hR=>hK a w hR))
end
theorem ji.qA {rows':D (D Value)} (h:ji P m rows W Ai ci Si As cs Ss)
  (hon:fG Ss W W') (hH:Has ((pm 6).sl 253) W' [J A' rows'.length c'] rows' S') (hS:∀ b∈S',b∈Ss∨W.heap.size<=b) :
  ji P m rows' (W'.setCell ⟨P.g,11,I⟩ (J A' rows'.length c')) Ai ci Si A' c' S'/\fG (P.g::(Si++Ss)) W (W'.setCell ⟨P.g,11,I⟩ (J A' rows'.length c')):=by
 have a4:=(blt h.box)
 have a3:=(hon.block P.g a4 h.gn.2).trans h.box;have a0:fG [P.g] W' (W'.setCell ⟨P.g,11,I⟩ (J A' rows'.length c')):=(fG.refl _ _).setCell (p:=⟨P.g,11,I⟩) (by simp) _;have a6:=h.fH.size
 have a1:P.g∉S':=fun hm=>by
  rcases hS _ hm with h1 | h1
  ·exact h.gn.2 h1
  ·omega
 have a2:∀ b∈Si,b∉S':=fun b hb hm=>by
  rcases hS b hm with h1 | h1
  ·exact h.lG b hb h1
  ·have:=h.iM.lt b hb;omega
 have a5:∀ b∈S',P.Y.heap.size<=b:=fun b hb=>by
  rcases hS b hb with h1 | h1
  ·exact h.low.2.2 b h1
  ·omega
 refine⟨⟨ko (i:=11) (v:=J A' rows'.length c') a3 rfl,(h.iM.gu hon (fun b hb hm=>h.lG b hb hm)).gu a0 (fun b hb hm=>by simp at hm;exact h.gn.1 (hm ▸ hb)),hH.gu a0 (fun b hb hm=>by simp at hm;exact a1 (hm ▸ hb)),a2,⟨h.gn.1,a1⟩,a0.fH (hon.fH h.fH h.low.2.2) (fun b hb=>by simp at hb;exact hb ▸ h.low.1),⟨h.low.1,h.low.2.1,a5⟩⟩,?_⟩;exact(hon.mono (fun b hb=>by simp[hb])).trans (a0.mono (fun b hb=>by simp at hb;simp[hb]))
theorem kj.pop (h:kj P m (rows++[r]) W L):∃ A c,Vg W ⟨P.g,11,I⟩=F (J A (rows.length+1) c)/\rows.length+1<=c/\
  (∀ W2,(Yo 249 (J A (rows.length+1) c) I (F (C Z (rows.length:Int))) I).run prog W2=.ok (J A rows.length c) W2)/\kj P m rows (W.setCell ⟨P.g,11,I⟩ (J A rows.length c)) L/\fG L W (W.setCell ⟨P.g,11,I⟩ (J A rows.length c)):=by
 obtain⟨Ai,ci,Si,As,cs,Ss,h,rfl⟩:=h;have hl:(rows++[r]).length=rows.length+1:=by simp
 have hc:=Has.cut (T:=pm 6) (k:=rows.length) (fun h=>h.2.2.2) h.px (by omega);rw[List.take_left] at hc;obtain⟨h1,h2⟩:=h.qA (fG.refl Ss W) hc (fun b hb=>.inl hb);have a0:=h.px.read;rw[hl] at a0;refine⟨As,cs,?_,?_,(KG Ld a0 (by omega)).1,⟨Ai,ci,Si,As,cs,Ss,h1,rfl⟩,h2⟩
 ·have h3:=(pH h.box).2.2.2.2.2.2.2.2.2.2.2.1
  rw[hl] at h3;exact h3
 ·obtain⟨A',c',h5,h6,_⟩:=h.px.read
  injection h5 with h5 _
  injection h5 with hA hn hc
  omega
theorem jL.snoc (h:jL fs rows)(s:fV)(T:jy)(Av:N VQ)(cv:Nat):jL (fs++[s.f]) (rows++[lR s T Av cv]):=by
 unfold jL at h |-;rw[X9,X9,h];rfl
def DA (P:kw)(d:Nat):Prop:=∀(T:jy)(m:gA)(R0:D (D Value))(s:fV)(W:V)(L:D Nat)(fs0:D Int)(i e:Nat),pN P T m R0 s W L->jL fs0 R0->R0.length<=3->iS P.E s->s.fI = []->(fs0++[s.f]).length=s.ft.length+1->s.ft.length+d=3->jt P.E m->m.fx.length<=5000->s.f=(i:Int)->gZ P.E.p i e->0<=m.fv->m.fv<=lD (d+1)->
 VK prog 204 #[.pointer (F ⟨P.g,0,I⟩)] W fun r W'=>r=.returned (.tuple #[])/\ia P T (zX P.E (d+1) (fs0++[s.f]) s m).1 R0 (s.wl (zX P.E (d+1) (fs0++[s.f]) s m).2) W L W'
theorem NP {js:D Int} {j:Int} (h:js[k]?=F j):oJ l (js.take (k+1)) v=mO (oJ l (js.take k) v) j.toNat v:=by
 unfold oJ;rw[Wr,h,List.foldl_append];rfl
theorem ji.DT (h:ji P m (rows++[r]) W Ai ci Si As cs Ss):Has ((pm 6).sl 253) W [J As (rows.length+1) cs] (rows++[r]) Ss:=by
 have h9:=h.px;rw[Vk] at h9;exact h9
theorem Mq {g:Nat} {o0 o1 o2 o3 o4 o5:Value} (h:W.heap[g]?=F (U #[o0,o1,o2,o3,o4,o5] e (0,0)))(v0 v1 v2 v3 v4 v5:Value) :
  ((((((W.setCell ⟨g,0,I⟩ v0).setCell ⟨g,1,I⟩ v1).setCell ⟨g,2,I⟩ v2).setCell ⟨g,3,I⟩ v3).setCell ⟨g,4,I⟩ v4).setCell ⟨g,5,I⟩ v5).heap[g]?=F (U #[v0,v1,v2,v3,v4,v5] e (0,0))/\fG [g] W ((((((W.setCell ⟨g,0,I⟩ v0).setCell ⟨g,1,I⟩ v1).setCell ⟨g,2,I⟩ v2).setCell ⟨g,3,I⟩ v3).setCell ⟨g,4,I⟩ v4).setCell ⟨g,5,I⟩ v5):=
 ⟨ko (i:=5) (v:=v5) (cur':=#[v0,v1,v2,v3,v4,v5]) (ko (i:=4) (v:=v4) (cur':=#[v0,v1,v2,v3,v4,o5]) (ko (i:=3) (v:=v3) (cur':=#[v0,v1,v2,v3,o4,o5]) (ko (i:=2) (v:=v2) (cur':=#[v0,v1,v2,o3,o4,o5]) (ko (i:=1) (v:=v1) (cur':=#[v0,v1,o2,o3,o4,o5]) (ko (i:=0) (v:=v0) (cur':=#[v0,o1,o2,o3,o4,o5]) h rfl) rfl) rfl) rfl) rfl) rfl,((((((fG.refl _ _).setCell (p:=⟨g,0,I⟩) gm v0).setCell (p:=⟨g,1,I⟩) gm v1).setCell (p:=⟨g,2,I⟩) gm v2).setCell (p:=⟨g,3,I⟩) gm v3).setCell (p:=⟨g,4,I⟩) gm v4).setCell (p:=⟨g,5,I⟩) gm v5⟩
theorem zvE {T:jy} {d:Nat} {s:fV} {fs0:D Int} {A2:N VQ} {n2 c2:Nat} (hLW:DA P d)(hR:sr P)(h:pN P T m R0 s W L)(hF:jL fs0 R0)(hs:iS P.E s)(hd3:s.ft.length+(d+1)=3)(hfs:(fs0++[s.f]).length=s.ft.length+1)
  (hm:jt P.E m) (hcnt:m.fx.length<200) (hg:kB P.E.p g) (hrep:oH P.E (fs0++[s.f]) m g=H) (h0:((zD P.E.p g).length:Int)<=m.fv) (h1:m.fv<=lD (d+1)) (hk:k<P.E.p.length) (hk0:lC P.E.p k≠0) :
  VK prog 219 #[.pointer (F ⟨P.g,0,I⟩),C Z g,C Z k,.agg #[C Z s.f,J T.Ac s.ft.length T.cc,J T.Al s.fM.length T.cl,C Z s.first,X s.iu,J A2 n2 c2]] W fun r W'=>r=.returned (.tuple #[])/\ia P T (zL P.E (zX P.E (d+1)) (fs0++[s.f]) k s g m) R0 s W L W':=by
 obtain⟨Av,cv,Sv,Lm,hB,rfl⟩:=h;obtain⟨i,rfl,x,hx,d6⟩:=hg;have eg:=hR.env.pc.len;have ed:=(Vh.1 hx).1;have ce:=hB.st.jD.2.2.2.2;have d4:=hR.up ce;obtain⟨gp,op,x',eG,eL,eH,eM,cK,ec,ct,p0,p1,p2,p3,q0,q1,q2,_⟩:=nA d4 ed;obtain rfl:x'=x:=by rw[hx] at ct;injection ct with h;exact h.symm
 obtain⟨z0,z1,z2,z5,z6,z7,z8,z9,aV,zf,zl⟩:=hB.st.jl;rw[cK] at z0;have aB:=uo hx;have eT:(i:Int)<(P.E.p.length:Int):=fh;have bZ:=hs.first;have eh:=hs.fM.2;have dZ:=hR.env.args;have cq:pJ P.E s=pJ P.E s:=rfl;obtain⟨a1,ht⟩:∃ t,pJ P.E s=t:=⟨_,rfl⟩
 have dU:=hs.ft.1
 have f2:0<=a1/\a1<=40:=by
  rw[<-ht];unfold pJ;split
  ·rename_i ho
   have:=(hs.iu ho).2.2;omega
  ·omega
 have bA:s.iu=H->Vl Z ((s.fM.length:Int)-P.E.args)=a1:=fun h=>by rw[<-ht];unfold pJ;rw[Vs h];exact iw
 have bB:s.iu=M->Vl Z (s.first+(s.fM.length:Int))=a1:=fun h=>by rw[<-ht];unfold pJ;rw[Vo (by simp[h])];exact iw
 have HT:=fk ht;have HX:=fk hx;have cB:=fk d6;have bl:=fk aB;clear cq ht hx d6 aB ct;have ao:fy W (W.alloc (U #[C Z s.f,J T.Ac s.ft.length T.cc,J T.Al s.fM.length T.cl,C Z s.first,X s.iu,J A2 n2 c2] 253)):=gG;have eb:(W.alloc (U #[C Z s.f,J T.Ac s.ft.length T.cc,J T.Al s.fM.length T.cl,C Z s.first,X s.iu,J A2 n2 c2] 253)).heap[W.heap.size]?=F (U #[C Z s.f,J T.Ac s.ft.length T.cc,J T.Al s.fM.length T.cl,C Z s.first,X s.iu,J A2 n2 c2] 253 (0,0)):=Vj W _;obtain⟨ou,co⟩:∃ b,s.iu=b:=⟨_,rfl⟩
 rw[co] at bA bB eb ao |-;have eI:=fk co;clear co;cases ou
 case' false=>
  clear bA;have bB:=bB rfl;go_enter func219,ntmps219;go_upto_region 6 with(fail);obtain⟨gb,aK⟩:∃ gb,W.heap.size=gb:=⟨_,rfl⟩
  rw[aK] at eb |-;have aP:=fk aK;clear aK;generalize W.alloc _=Y at ao eb |-
 case' true=>
  clear bB;have bA:=bA rfl;go_enter func219,ntmps219;go_upto_region 4 with(fail);go_quiet (fail);go_upto_region 6 with(fail);generalize hq:World.drewN (W.alloc _) _=Y;have bK:fy (W.alloc (U #[C Z s.f,J T.Ac s.ft.length T.cc,J T.Al s.fM.length T.cl,C Z s.first,X H,J A2 n2 c2] 253)) Y:=by rw[<-hq];exact gF
  have ao:=ao.trans bK;have eb:=zj eb bK;clear hq bK;obtain⟨gb,aK⟩:∃ gb,W.heap.size=gb:=⟨_,rfl⟩
  rw[aK] at eb |-;have aP:=fk aK;clear aK
 all_goals
  have aF:=za ao z0
  obtain⟨c0,c1,eK,c3,c4,c5,cf,cl⟩:=oU eb
  have dS:=Ty.up _ hB.ft.read ao
  have d3:=Ty.up _ d4 ao
  rw[cK] at d3
  have hl:=hR.hl
  go_cut [10] from 10 to 56 (fun v wx=>∃(g3:Nat) (B1 B2:N VQ) (d1 d2:Nat) (S1 S2:D Nat),v=.pointer (F ⟨g3,0,I⟩)/\J3 zv jB 3 9 Y wx (J B1 (s.ft.length+1) d1) (J B2 (zu P.E.p (i:Int)).length d2) (s.ft++[(k:Int)]) (zu P.E.p (i:Int)) S1 S2 g3 (U #[C Z (i:Int),J B1 (s.ft.length+1) d1,J B2 (zu P.E.p (i:Int)).length d2,C Z a1,X M,J I 0 0] 253 (0,0))/\Y.heap.size<=g3)
  case first=>
   refine lO (fun w'=>Vg w' ⟨gb,1,I⟩=F (J T.Ac s.ft.length T.cc)/\Vg w' ⟨P.g,0,I⟩=F (J (F ⟨gp,op,I⟩) P.E.p.length P.c)) 17 gU ⟨zc c1,zc aF⟩ (fun hH=>?_);have HJ:=J3.start (T:=zv) (U7:=jB) (e:=3) (f:=9) eb;have HJ:=HJ.fH ((fy.refl _).drew);generalize hYd:Y.drew=Wx at HJ hH |-;clear hYd;refine .tq 0 [17] hH ?_;refine .tq 2 [17] hH ?_;refine .tq 3 [17] hH ?_;refine .tq 5 [17] hH ?_;refine .tq 8 [17] hH ?_;refine .tq 9 [17] hH ?_;refine .tq 10 [17] hH ?_;refine .tq 11 [17] hH ?_;refine .tq 12 [17] hH ?_;refine .tq 14 [17] hH ?_;simp only[Zv,Zw,Zx,Act.put,X5,Zt,Zu];show fL _ _ _ _ _ _ (7+1) _ _ _;refine fL.DS [1,4,6,7,13,15,16] (fun a0 a2 a w=>∃ b1 b4 b6 b7 a3 a5 a6,a2=#[H,b1,H,H,b4,H,b6,b7,H,H,H,H,H,a3,H,a5,a6,M]/\∃(va vb:Value) (xa:D Int) (xb:D G) (Sa Sb:D Nat) (go:Nat) (oo:Obj) (ge:Nat) (au av aw ax ay ak aj:Value),a=((((((a0.put (F 42) au).put (F 45) av).put (F 47) aw).put (F 48) ax).put (F 54) ay).put (F 56) ak).put (F 10) aj/\J3 zv jB 3 9 Y w va vb xa xb Sa Sb go oo/\(b4=H->b1=H)/\(b7=H->b4=H)/\(b1=H->b4=M->au=va/\xa = [])/\(b4=H->b7=M->av=va/\xa=s.ft)/\(b7=H->ax=va/\xa=s.ft++[(k:Int)])/\(b6=H->b7=M->aw=J (F ⟨ge,0,I⟩) 1 1/\w.heap[ge]?=F (U #[C Z (k:Int)] 3 (0,0))/\ge∉Sa)/\(a3=H->ay=vb/\xb=zu P.E.p (i:Int))/\(a5=H->b7=H/\a3=H/\ak=.agg #[C Z (i:Int),va,vb,C Z a1,X M,J I 0 0])/\(a6=H->aj=.pointer (F ⟨go,0,I⟩)/\oo=U #[C Z 0,J I 0 0,J I 0 0,C Z 0,X M,J I 0 0] 253 (0,0)/\Y.heap.size<=go)) (fun l=>(if !l.getD 1 H then [1] else [])++(if l.getD 1 H && !l.getD 4 H then [4] else [])++(if !l.getD 6 H then [6] else [])++(if l.getD 4 H && (l.getD 6 H && !l.getD 7 H) then [7] else [])++(if l.getD 7 H && !l.getD 13 H then [13] else [])++(if l.getD 7 H && (l.getD 13 H && !l.getD 15 H) then [15] else [])++(if !l.getD 16 H then [16] else [])) 1 7 gv ?_ ?_ ?_ gU ?_
   ·intro a2 a w hI cr
    obtain⟨b1,b4,b6,b7,a3,a5,a6,rfl,_⟩:=hI;cases b1 <;> cases b4 <;> cases b6 <;> cases b7 <;> cases a3 <;> cases a5 <;> cases a6
    all_goals first | exact⟨gU,gv,gv⟩ | (exfalso;revert cr;decide)
   ·intro a2 a w j hI hj
    obtain⟨b1,b4,b6,b7,a3,a5,a6,rfl,va,vb,xa,xb,Sa,Sb,go,oo,ge,au,av,aw,ax,ay,ak,aj,ha,HJ,k4,k7,f1,f4,f7,f6,al,am,an⟩:=hI;simp only[Act.put,X5,Zt,Zu] at ha;subst ha;have hj:(b1=M/\j=1)∨(b1=H/\b4=M/\j=4)∨(b6=M/\j=6)∨(b4=H/\b6=H/\b7=M/\j=7)∨(b7=H/\a3=M/\j=13)∨(b7=H/\a3=H/\a5=M/\j=15)∨(a6=M/\j=16):=by simpa[Zp] using hj
    have ad:=Vm (HJ.cell c1) (HJ.cell aF);obtain⟨A9,c9,rfl⟩:=Db HJ.ha;obtain⟨B9,d9,rfl⟩:=Db HJ.hb;rcases hj with⟨aU,rfl⟩ | ⟨aU,aJ,rfl⟩ | ⟨cN,rfl⟩ | ⟨aJ,cN,aC,rfl⟩ | ⟨aC,ap,rfl⟩ | ⟨aC,ap,dN,rfl⟩ | ⟨dO,rfl⟩
    ·refine yF rfl (fun K hK=>?_)
     go_simp;have HK:=HJ.nM;have ad:=Vm (HK.cell c1) (HK.cell aF);exact hK.out _ _ ⟨fun _=>ad,H,b4,b6,b7,a3,a5,a6,rfl,_,_,_,_,_,_,_,_,ge,(J (F ⟨w.heap.size,0,I⟩) 0 0),av,aw,ax,ay,ak,aj,by simp only[Zv,Zw,Zx,Act.put,X5,Zt,Zu],HK,(fun _=>rfl),k7,(fun _ _=>⟨rfl,rfl⟩),(fun h=>absurd (k4 h) (by rw[aU];decide)),(fun h=>absurd (k4 (k7 h)) (by rw[aU];decide)),(fun h h7=>by obtain⟨e1,e2,e3⟩:=f6 h h7;have h9:=(blt e2);exact⟨e1,zj e2 ((fy.refl _).alloc _),(by simp;omega)⟩),al,(fun h=>absurd (k4 (k7 (am h).1)) (by rw[aU];decide)),an⟩
    ·obtain⟨rfl,rfl⟩:=f1 aU aJ
     refine yF rfl (fun K hK=>?_);refine rj (L:=s.ft.length) rfl (.tmp 42) (.tmp 44) me zI HJ.ha (Ty.up _ dS HJ.hg) rfl rfl rfl (VJ _).symm fh fh ?_;intro B1 d1 W1 S1 aa bq ac;rw[Wo] at bq;have HK:=HJ.rO aa bq ac;have ad:=Vm (HK.cell c1) (HK.cell aF);exact hK.out _ _ ⟨fun _=>ad,b1,H,b6,b7,a3,a5,a6,rfl,_,_,_,_,_,_,_,_,ge,(J A9 ([]:D Int).length c9),(J B1 s.ft.length d1),aw,ax,ay,ak,aj,by simp only[Zv,Zw,Zx,Act.put,X5,Zt,Zu],HK,(fun _=>aU),(fun _=>rfl),(fun _ h=>by cases h),(fun _ _=>⟨rfl,rfl⟩),(fun h=>absurd (k7 h) (by rw[aJ];decide)),(fun h h7=>by obtain⟨e1,e2,e3⟩:=f6 h h7;have h9:=(blt e2);exact⟨e1,(aa.block ge h9 e3).trans e2,(fun hm=>(ac ge hm).elim e3 (fun h=>fh))⟩),al,(fun h=>absurd (k7 (am h).1) (by rw[aJ];decide)),an⟩
    ·refine yF rfl (fun K hK=>?_)
     go_simp;have HK:=HJ.fH ((fy.refl w).alloc (U #[C Z (k:Int)] 3));have ad:=Vm (HK.cell c1) (HK.cell aF);exact hK.out _ _ ⟨fun _=>ad,b1,b4,H,b7,a3,a5,a6,rfl,_,_,_,_,_,_,_,_,_,au,av,(J (F ⟨w.heap.size,0,I⟩) 1 1),ax,ay,ak,aj,by simp only[Zv,Zw,Zx,Act.put,X5,Zt,Zu],HK,k4,k7,f1,f4,f7,(fun _ _=>⟨rfl,Vj _ _,fun hm=>by have:=HJ.ha.lt _ hm;omega⟩),al,am,an⟩
    ·obtain⟨rfl,rfl⟩:=f4 aJ aC
     obtain⟨rfl,e2,e3⟩:=f6 cN aC;refine yF rfl (fun K hK=>?_);have bc:zv.R w w.heap.size [C Z (k:Int)] (k:Int):=⟨rfl,fh,fh⟩
     refine sv (L:=s.ft.length+1) rfl (.tmp 45) (.tmp 47) me zI HJ.ha bc rfl rfl rfl (by intro j u hu;rw[WC w ge _ _ _ (0,0) e2];simpa using hu) rfl fh fh ?_;intro B1 d1 W1 S1 aa bq ac;have HK:=HJ.rO aa bq ac;have ad:=Vm (HK.cell c1) (HK.cell aF);exact hK.out _ _ ⟨fun _=>ad,b1,b4,b6,H,a3,a5,a6,rfl,_,_,_,_,_,_,_,_,ge,au,(J A9 s.ft.length c9),(J (F ⟨ge,0,I⟩) 1 1),(J B1 (s.ft.length+1) d1),ay,ak,aj,by simp only[Zv,Zw,Zx,Act.put,X5,Zt,Zu],HK,k4,(fun _=>aJ),(fun _ h=>by rw[aJ] at h;cases h),(fun _ h=>by cases h),(fun _=>⟨rfl,rfl⟩),(fun _ h=>by cases h),al,(fun h=>absurd ((am h).1) (by rw[aC];decide)),an⟩
    ·clear aC
     refine yF rfl (fun K hK=>?_);go_simp;go_at_call 191;refine(zje (Ty.up _ d3 HJ.hg) hl hR.hs).mono ?_;rintro e v ⟨A8,c8,S8,rfl,dC,aI,cS⟩;have HK:=HJ.Be cS dC aI;have ad:=Vm (HK.cell c1) (HK.cell aF);exact hK.out _ _ ⟨fun _=>ad,b1,b4,b6,b7,H,a5,a6,rfl,_,_,_,_,_,_,_,_,ge,au,av,aw,ax,(J A8 (zu P.E.p (i:Int)).length c8),ak,aj,by simp only[Zv,Zw,Zx,Act.put,X5,Zt,Zu],HK,k4,k7,f1,f4,f7,(fun h h7=>by obtain⟨e1,e2,e3⟩:=f6 h h7;have h9:=(blt e2);exact⟨e1,zj e2 cS,e3⟩),(fun _=>⟨rfl,rfl⟩),(fun h=>absurd ((am h).2.1) (by rw[ap];decide)),an⟩
    ·obtain⟨rfl,rfl⟩:=f7 aC
     obtain⟨rfl,rfl⟩:=al ap;refine yF rfl (fun K hK=>?_);go_simp;exact hK.out _ _ ⟨fun _=>ad,b1,b4,b6,b7,a3,H,a6,rfl,_,_,_,_,_,_,_,_,ge,au,av,aw,(J A9 (s.ft.length+1) c9),(J B9 (zu P.E.p (i:Int)).length d9),(.agg #[C Z (i:Int),J A9 (s.ft.length+1) c9,J B9 (zu P.E.p (i:Int)).length d9,C Z a1,X M,J I 0 0]),aj,by simp only[Zv,Zw,Zx,Act.put,X5,Zt,Zu],HJ,k4,k7,f1,f4,(fun _=>⟨gm,rfl⟩),f6,(fun _=>⟨rfl,rfl⟩),(fun _=>⟨aC,ap,gm⟩),an⟩
    ·refine yF rfl (fun K hK=>?_)
     go_simp;have HK:=HJ.mV (cs:=#[C Z 0,J I 0 0,J I 0 0,C Z 0,X M,J I 0 0]) (t:=253);have ad:=Vm (HK.cell c1) (HK.cell aF);have dL:=HJ.hg.size;exact hK.out _ _ ⟨fun _=>ad,b1,b4,b6,b7,a3,a5,H,rfl,_,_,_,_,_,_,_,_,ge,au,av,aw,ax,ay,ak,(.pointer (F ⟨w.heap.size,0,I⟩)),by simp only[Zv,Zw,Zx,Act.put,X5,Zt,Zu],HK,k4,k7,f1,f4,f7,(fun h h7=>by obtain⟨e1,e2,e3⟩:=f6 h h7;have h9:=(blt e2);exact⟨e1,zj e2 ((fy.refl _).alloc _),e3⟩),al,am,(fun _=>⟨rfl,rfl,dL⟩)⟩
   ·intro a2 a w hI cr
    obtain⟨b1,b4,b6,b7,a3,a5,a6,rfl,va,vb,xa,xb,Sa,Sb,go,oo,ge,au,av,aw,ax,ay,ak,aj,ha,HJ,k4,k7,f1,f4,f7,f6,al,am,an⟩:=hI;simp only[Act.put,X5,Zt,Zu] at ha;subst ha
    have bT:b7=H/\a3=H/\a5=H/\a6=H/\b1=H/\b4=H/\b6=H:=by
     revert cr;clear k4 k7 f1 f4 f7 f6 al am an HJ;cases b1 <;> cases b4 <;> cases b6 <;> cases b7 <;> cases a3 <;> cases a5 <;> cases a6 <;> decide
    obtain⟨rfl,rfl,rfl,rfl,rfl,rfl,rfl⟩:=bT;obtain⟨rfl,rfl⟩:=f7 rfl;obtain⟨rfl,rfl⟩:=al rfl;obtain⟨_,_,rfl⟩:=am rfl;obtain⟨rfl,rfl,cd⟩:=an rfl;obtain⟨A9,c9,rfl⟩:=Db HJ.ha;obtain⟨B9,d9,rfl⟩:=Db HJ.hb;simp only[Vk,VC,VZ,VJ] at HJ |-;obtain⟨o0,o1,o2,o3,o4,o5,of,ol⟩:=oU HJ.ho;refine fL.last gU rfl gU (fun K hK=>?_);go_simp;refine hK.out _ _ ?_;clear hK
    try simp only[lay]
    have h2:=Mq HJ.ho (C Z (i:Int)) (J A9 (s.ft.length+1) c9) (J B9 (zu P.E.p (i:Int)).length d9) (C Z a1) (X M) (J I 0 0);have HJ:=HJ.store h2.2 h2.1 cd;go_wp2_with(fail);go_meet;exact⟨_,A9,B9,c9,d9,Sa,Sb,rfl,HJ,cd⟩
   ·exact⟨M,M,M,M,M,M,M,rfl,_,_,_,_,_,_,_,_,0,Yd,Yd,Yd,Yd,Yd,Yd,Yd,by simp only[Act.put,X5,Zt,Zu],HJ,(fun h=>by cases h),(fun h=>by cases h),(fun h=>by cases h),(fun h=>by cases h),(fun h=>by cases h),(fun h=>by cases h),(fun h=>by cases h),(fun h=>by cases h),(fun h=>by cases h)⟩
  case rest=>
   obtain⟨g3,B1,B2,d1,d2,S1,S2,rfl,HJ,cd⟩:=hcut;have b2:=ao.trans HJ.hg;have bJ:=hB.fH b2;obtain⟨Vb,hX⟩:∃ Vb:fV,Vb=kA P.E (i:Int) k s:=⟨_,rfl⟩
   have a4:Vb=⟨(i:Int),s.ft++[(k:Int)],zu P.E.p (i:Int),a1,M,[]⟩:=by rw[hX];unfold kA;rw[HT.out]
   have c6:kB P.E.p (i:Int):=⟨i,rfl,x',HX.out,cB.out⟩
   have bd:0<=(k:Int)/\(k:Int)<P.E.p.length:=⟨fh,fh⟩
   have bt:iS P.E Vb:=by rw[hX];exact AK hR.env hs c6 bd fh
   have a9:=c6.parts hR.env;rw[bl.out] at a9 h0;obtain⟨na,bg⟩:∃ n,x'.gD.length=n:=⟨_,rfl⟩
   obtain⟨nl,bx⟩:∃ n,(zu P.E.p (i:Int)).length=n:=⟨_,rfl⟩
   rw[bg,bx] at a9;rw[bg] at h0 |-;obtain⟨eY,ep,eZ⟩:=a9;have dT:lD (d+1)<=900:=by unfold lD;omega
   have cE:=zj eb HJ.hg;have aq:gb∉Lm:=fun hm=>by have h8:=aP.out;have:=hB.st.jD.2.2.1 gb hm;omega
   have eQ:=ao.size;have e4:=(blt eb)
   have ah:g3∉Lm:=fun hm=>by have h8:=aP.out;have:=hB.st.jD.2.2.1 g3 hm;omega
   have eX:g3≠gb:=fh;have em:gb≠g3:=fh;have eO:=hB.st.jD.2.1;have cZ:P.g≠g3:=by have h8:=aP.out;omega
   have ai:∀(W':V) (m':gA) (L':D Nat) (j:Int),kj P m' (R0++[lR s T Av cv]) W' L'->(zv.sl 3).R W' W'.heap.size [J T.Ac s.ft.length T.cc] s.ft->(m'.fx.length<=100000/\(0<=j/\j<=100)/\(-1000000<=m'.fv/\m'.fv<=1000000))->
     VK prog 214 #[.pointer (F ⟨P.g,0,I⟩),.agg #[C Z (i:Int),J B1 (s.ft.length+1) d1,J B2 nl d2,C Z a1,X M,J I 0 0],C Z j,C Z (k:Int),J T.Ac s.ft.length T.cc] W' fun r W2=>r=.returned (.tuple #[])/\iv P (ni P.E m' Vb j k s.ft) (R0++[lR s T Av cv]) W' L' W2:=fun W' m' L' j hS hc hb=>by
    have h9:=zud (s:=Vb) (i:=j) (line:=(k:Int)) (ft:=s.ft) (Ac:=B1) (cc:=d1) (Al:=B2) (cl:=d2) (nl:=nl) (Av:=I) (nv:=0) (cv:=0) hS hc fh hb.1 hb.2.1 hb.2.2 (by rw[a4];exact⟨by simp only;omega,by simp only;omega⟩) ⟨dZ.1,fh⟩ ⟨fh,fh⟩;rw[a4] at h9 |-;simpa only[Vk,VC,VZ,VJ] using h9
   obtain⟨ms,ck⟩:∃ v,max m.most (a1+(nl:Int))=v:=⟨_,rfl⟩
   have ek:(if m.most<a1+(nl:Int) then a1+(nl:Int) else m.most)=ms:=by rw[<-ck];split <;> omega
   have cX:max m.most (a1+(nl:Int))=ms:=ck;have f5:Vl Z (a1+(nl:Int))=a1+(nl:Int):=iw;have de:=fk bJ;have af:=fk HJ;obtain⟨z0,z1,z2,z5,z6,z7,z8,z9,aV,zf,zl⟩:=bJ.st.jl;have br:=HJ.ho;rw[bx] at br;go_upto_region 7 with(fail);refine yq 13 gU gU (fun wx hgx=>?_);have aS:=de.out.fH hgx;obtain⟨y0,y1,y2,y5,y6,y7,y8,y9,ff,yf,yl⟩:=aS.st.jl;obtain⟨t0,t1,t2,t3,t4,t5,tf,tl⟩:=oU (zj br hgx);clear z0 z1 z2 z5 z6 z7 z8 z9 aV zf zl;simp only[Wz,Xk,WR,WQ]
   repeat still_step
   refine XZ ?_;obtain⟨m1,bv⟩:∃ m1,m.j7 ms=m1:=⟨_,rfl⟩
   have dp:Hid (iv P m1 (R0++[lR s T Av cv]) wx Lm (wx.setCell ⟨P.g,7,I⟩ (C Z ms))):=fk (by
    rw[<-bv]
    exact(iv.refl aS.st).num rfl (fun _ _ _ _ _ _ _ _ _=>rfl))
   have dm:=fk bv;have bW:=aS.ft;have aW:=fk aS.ft;have b0:=fk (zj br hgx);have bn:=fk (zj cE hgx);have HH:=fk (show m1.fx=m.fx/\m1.fv=m.fv/\m1.start=m.start/\m1.most=ms from by rw[<-bv];exact⟨rfl,rfl,rfl,rfl⟩);have f8:Vl Z ((na:Int)-1)=(na:Int)-1:=iw;have f9:=aS.fH (fy.refl _);have b8:=hB.dc;clear bv bW aS bJ br cE eb;go_wp2_with(fail);go_loopw [11] (fun z wr=>∃(zi:Int) (q:Nat) (mq:gA),z=C Z zi/\zi+1=(q:Int)/\q<=na/\Hid (iv P mq (R0++[lR s T Av cv]) wx Lm wr)/\Hid (rB P.E Vb k s.ft q mq=rB P.E Vb k s.ft na m1)/\Hid (jt P.E mq)/\mq.fv=m.fv-((na-q:Nat):Int)/\mq.fx.length<=200+(na-q)) (fun z _=>(Wj z+1).toNat)
   case atStart=>
    have h9:=HH.out;exact⟨(na:Int)-1,na,m1,io,fh,Vz _,dp,fk rfl,fk ⟨by rw[h9.1];exact hm.iM,by rw[h9.1];exact hm.pos⟩,by rw[h9.2.1];simp,by rw[h9.1];omega⟩
   case round=>
    obtain⟨zi,q,mq,rfl,d7,f0,hN,hA,cH,cR,dW⟩:=hrel;have ev:Vl Z (zi-1)=zi-1:=iw;by_cases hz0:0<=zi
    ·obtain⟨j,rfl⟩:=VI hz0
     obtain rfl:q=j+1:=fh;have e6:(j:Int)≥0:=hz0;obtain⟨L1,ac,a7,aH⟩:=hN.out;have ag:=(aW.out.gu a7 (fun b hb=>(b8 b hb).1)).read;obtain⟨t0,t1,t2,t3,t4,t5,tf,tl⟩:=oU (rU a7 ah b0.out);obtain⟨u0,u1,u2,u3,u4,u5,uf,ul⟩:=oU (rU a7 aq bn.out);have bU:mq.fx.length<=100000/\(0<=(j:Int)/\(j:Int)<=100)/\(-1000000<=mq.fv/\mq.fv<=1000000):=⟨fh,⟨fh,fh⟩,fh,fh⟩
     have aO:=Br (n0:=0) (i:=(j:Int)) (line:=(k:Int)) (ft:=s.ft) hR.env bt cH.out ⟨fh,fh⟩ ⟨fh,fh⟩ bd hs.ft;have aZ:=fk aO;have dz:Hid (rB P.E Vb k s.ft j (ni P.E mq Vb j k s.ft)=rB P.E Vb k s.ft na m1):=fk (by rw[<-hA.out];rfl);clear aO hz0 d7;go_wp2_with(first | (go_at_call 214;refine(ai _ _ _ _ ac ag bU).mono ?_;rintro e w2 ⟨rfl,h2⟩));go_roundw
     case measure=>exact iC
     case rel=>
      have eo:=iv.trans ac a7 aH h2;have h7:=aZ.out.cnt;have h8:=aZ.out.fv;exact⟨(j:Int)-1,j,_,io,fh,fh,fk eo,dz,fk aZ.out.ok,fh,fh⟩
    ·have e6:¬ (zi≥0):=hz0
     have e7:¬ (0<=zi):=hz0;obtain rfl:q=0:=fh;obtain⟨m2,ej⟩:∃ m2,mq=m2:=⟨_,rfl⟩
     have dd:Hid (rB P.E Vb k s.ft na m1=mq):=fk (by rw[<-hA.out];rfl);subst ej;clear hz0 d7 hA ev;go_wp2_with(fail);go_loopw [12] (fun z wi=>∃(j:Nat) (mz:gA),z=C Z j/\na<=j/\j<=nl/\Hid (iv P mz (R0++[lR s T Av cv]) wx Lm wi)/\Hid (sN P.E Vb k s.ft (nl-j) j mz=sN P.E Vb k s.ft (nl-na) na mq)/\Hid (jt P.E mz)/\mz.fv=m.fv-(na:Int)/\mz.fx.length<=200+na+2*(j-na)) (fun z _=>nl-(Wj z).toNat)
     case atStart=>exact⟨na,mq,rfl,Vz _,ep,hN,fk rfl,cH,by rw[cR,Nat.sub_zero],fh⟩
     case round=>
      obtain⟨j,mz,rfl,eU,eV,cJ,hZ,dG,bu,eS⟩:=hrel;obtain⟨L1,ac,a7,aH⟩:=cJ.out;obtain⟨t0,t1,t2,t3,t4,t5,tf,tl⟩:=oU (rU a7 ah b0.out);by_cases hjl:j<nl
      ·have ee:(j:Int)<(nl:Int):=fh
       obtain⟨u0,u1,u2,u3,u4,u5,uf,ul⟩:=oU (rU a7 aq bn.out);have ag:=(aW.out.gu a7 (fun b hb=>(b8 b hb).1)).read;have bH:fQ 0:=⟨fh,fh⟩
       have bc:fQ (k:Int):=⟨fh,fh⟩
       have dP : -1000000<=mz.fv/\mz.fv<=1000000:=⟨fh,fh⟩
       have bV:mz.fx.length<=100000:=fh;have cp:s.ft.length<=1000:=fh;have bz:=Ej (n0:=0) (v:=0) (line:=(k:Int)) (ft:=s.ft) dG.out ⟨fh,fh⟩ ⟨fh,fh⟩ bd hs.ft;have h7:=bz.cnt;have h8:=bz.fv;have bU:(mx P.E mz 0 k s.ft).fx.length<=100000/\(0<=(j:Int)/\(j:Int)<=100)/\(-1000000<=(mx P.E mz 0 k s.ft).fv/\(mx P.E mz 0 k s.ft).fv<=1000000):=⟨fh,⟨fh,fh⟩,fh,fh⟩
       have aO:=Br (n0:=0) (i:=(j:Int)) (line:=(k:Int)) (ft:=s.ft) hR.env bt bz.ok ⟨fh,fh⟩ ⟨fh,fh⟩ bd hs.ft;have h5:=aO.cnt;have h6:=aO.fv;have aZ:=fk aO;have HD:=fk (show (ni P.E (mx P.E mz 0 k s.ft) Vb j k s.ft).fv=m.fv-(na:Int) from fh);have HC:=fk (show (ni P.E (mx P.E mz 0 k s.ft) Vb j k s.ft).fx.length<=200+na+2*(j+1-na) from fh);have dM:Hid (sN P.E Vb k s.ft (nl-(j+1)) (j+1) (ni P.E (mx P.E mz 0 k s.ft) Vb j k s.ft)=sN P.E Vb k s.ft (nl-na) na mq):=fk (by rw[<-hZ.out,show nl-j=(nl-(j+1))+1 from fh];rfl);clear aO bz h5 h6 h7 h8;go_wp2_with(first | (go_at_call 211;refine(zmX ac ag cp bV bH dP bc).mono ?_;rintro e w2 ⟨rfl,h2⟩;have H2:=fk h2;obtain⟨L2,cL,bs,dD⟩:=h2;have b5:=((aW.out.gu a7 (fun b hb=>(b8 b hb).1)).gu bs (fun b hb=>Ar (fun b hb=>(b8 b hb).1) aW.out.lt aH b hb)).read;obtain⟨r0,r1,r2,r3,r4,r5,rf,rl⟩:=oU (rU (a7.then bs aH) ah b0.out);obtain⟨v0,v1,v2,v3,v4,v5,vf,vl⟩:=oU (rU (a7.then bs aH) aq bn.out)) | (go_at_call 214;refine(ai _ _ _ _ cL b5 bU).mono ?_;rintro e w3 ⟨rfl,h3⟩));go_roundw;exact⟨j+1,_,io,fh,fh,fk (iv.trans ac a7 aH (iv.trans cL bs dD h3)),dM,fk aZ.out.ok,HD.out,HC.out⟩;exact iC
      ·obtain rfl:j=nl:=fh
       have ee:¬ ((j:Int)<(j:Int)):=fh;obtain⟨m4,bw⟩:∃ m4,pX P.E (i:Int) k s m=m4:=⟨_,rfl⟩
       have hH:m4=if mz.start=H then zC P.E mz 15 0 k s.ft else mz:=by
        have e1:(kA P.E (i:Int) k s)=Vb:=hX.symm;have e2:Vb.fM.length=j:=by rw[a4];exact bx
        rw[<-bw];unfold pX;simp only[e1,e2,bl.out,bg,HT.out,ck,dm.out,dd.out];rw[<-hZ.out,Ws];rfl
       have bL:=Iz (n0:=200) hR.env hs c6 bd hk0 fh hm (by rw[bl.out,bg];omega) fh;rw[bw,bl.out,bg] at bL;have aQ:=fk bL;have dn:=fk bw;have ag:=(aW.out.gu a7 (fun b hb=>(b8 b hb).1)).read;obtain⟨u0,u1,u2,u3,u4,u5,uf,ul⟩:=oU (rU a7 aq bn.out);obtain⟨z0,z1,z2,z5,z6,z7,z8,z9,aV,zf,zl⟩:=ac.jl;obtain⟨sb,d5⟩:∃ b,mz.start=b:=⟨_,rfl⟩
       rw[d5] at hH aV;have cp:s.ft.length<=1000:=fh;have bV:mz.fx.length<=100000:=fh;have bc:fQ (k:Int):=⟨fh,fh⟩
       have dy:fQ 15:=⟨fh,fh⟩
       have bH:fQ 0:=⟨fh,fh⟩
       have dY:fQ mz.fv:=⟨fh,fh⟩
       obtain⟨dB,bX⟩:∃ v,m.fv-(na:Int)=v:=⟨_,rfl⟩
       rw[bX] at bu;rw[bu] at z9;have df:=fk bu;have aX:=fk bX;have dX:0<=dB/\dB<=900:=⟨fh,fh⟩
       have cz:=fk hH;clear bL bw d5 bu bX hH h0 cR dW;cases sb
       case' false=>
        have HE:Hid (m4=mz):=fk (by rw[cz.out,Vo gv]);have cA:Hid (iv P m4 (R0++[lR s T Av cv]) wx Lm wr):=fk (by rw[HE.out];exact cJ.out);obtain⟨w4,rfl⟩:∃ w4,w4=wr:=⟨_,rfl⟩
        go_upto_region 20 with(fail)
       case' true=>
        have HE:Hid (m4=zC P.E mz 15 0 k s.ft):=fk (by rw[cz.out,Vs rfl]);go_upto_region 20 with(first | (go_at_call 203;refine(zfL ac ag cp bV dy bH bc dY).mono ?_;rintro e w4 ⟨rfl,h4⟩;have cA:Hid (iv P m4 (R0++[lR s T Av cv]) wx Lm w4):=fk (by rw[HE.out];exact iv.trans ac a7 aH h4);obtain⟨y9,yf,yl⟩:=h4.c9;replace y9:Vg w4 ⟨P.g,9,I⟩=F (C Z mz.fv):=y9;rw[df.out] at y9;clear h4))
       all_goals
        obtain⟨L4,dK,b3,bM⟩:=cA.out
        obtain⟨Ai,ci,Si,As,cs,Ss,bN,rfl⟩:=dK
        have bk:Vg w4 ⟨P.g,11,I⟩=F (J As (R0.length+1) cs):=by
         have h9:=(pH bN.box).2.2.2.2.2.2.2.2.2.2.2.1;simpa only[Vk,VC,VZ,VJ] using h9
        obtain⟨q0,q1,q2,q3,q4,q5,qf,ql⟩:=oU (rU b3 ah b0.out)
        have ae:g3∉Ss:=fun hm=>by
         rcases bM g3 (by simp[hm]) with h | h
         ·exact ah h
         ·have h5:=(blt b0.out);omega
        have eP:R0.length<=2:=by have h5:=hF.len;rw[h5];simp only[Vk,VC,VZ] at hfs;omega
        refine lO (fun w'=>Vg w' ⟨P.g,11,I⟩=F (J As (R0.length+1) cs)/\Vg w' ⟨g3,0,I⟩=F (C Z (i:Int))/\Vg w' ⟨g3,1,I⟩=F (J B1 (s.ft.length+1) d1)/\Vg w' ⟨g3,2,I⟩=F (J B2 j d2)/\Vg w' ⟨g3,3,I⟩=F (C Z a1)/\Vg w' ⟨g3,4,I⟩=F (X M)/\Vg w' ⟨g3,5,I⟩=F (J I 0 0)) 10 gU ⟨zc bk,zc q0,zc q1,zc q2,zc q3,zc q4,zc q5⟩ (fun a8=>?_)
        have bp:fy w4 w4.drew:=(fy.refl _).drew
        have aA:=bN.grow bp
        clear bk q0 q1 q2 q3 q4 q5
        generalize w4.drew=Wd at aA a8 bp |-
        have aI:=a8
        obtain⟨bk,q0,q1,q2,q3,q4,q5⟩:=aI
        refine .tq 0 [10] a8 ?_
        refine .tq 1 [10] a8 ?_
        refine .tq 2 [10] a8 ?_
        refine .tq 3 [10] a8 ?_
        refine .tq 4 [10] a8 ?_
        refine .tq 5 [10] a8 ?_
        refine fL.iQ (i:=6) gU rfl (fun K hK=>?_)
        ·go_simp
         have a8:=Vm (zq bk (U #[C Z (i:Int),J B1 (s.ft.length+1) d1,J B2 j d2,C Z a1,X M,J I 0 0] 253)) (Vm (zq q0 (U #[C Z (i:Int),J B1 (s.ft.length+1) d1,J B2 j d2,C Z a1,X M,J I 0 0] 253)) (Vm (zq q1 (U #[C Z (i:Int),J B1 (s.ft.length+1) d1,J B2 j d2,C Z a1,X M,J I 0 0] 253)) (Vm (zq q2 (U #[C Z (i:Int),J B1 (s.ft.length+1) d1,J B2 j d2,C Z a1,X M,J I 0 0] 253)) (Vm (zq q3 (U #[C Z (i:Int),J B1 (s.ft.length+1) d1,J B2 j d2,C Z a1,X M,J I 0 0] 253)) (Vm (zq q4 (U #[C Z (i:Int),J B1 (s.ft.length+1) d1,J B2 j d2,C Z a1,X M,J I 0 0] 253)) (zq q5 (U #[C Z (i:Int),J B1 (s.ft.length+1) d1,J B2 j d2,C Z a1,X M,J I 0 0] 253)))))));refine hK.out _ _ a8 ?_;clear hK
         try simp only[lay]
         refine fL.iQ (i:=7) gU rfl (fun K hK=>?_)
         ·have ab:fy Wd (Wd.alloc (U #[C Z (i:Int),J B1 (s.ft.length+1) d1,J B2 j d2,C Z a1,X M,J I 0 0] 253)):=(fy.refl _).alloc _
          have dJ:(pm 6).R Wd Wd.heap.size [C Z (i:Int),J B1 (s.ft.length+1) d1,J B2 j d2,C Z a1,X M,J I 0 0] [C Z (i:Int),J B1 (s.ft.length+1) d1,J B2 j d2,C Z a1,X M,J I 0 0]:=⟨rfl,rfl,by intro u hu;simp at hu;rcases hu with rfl | rfl | rfl | rfl | rfl | rfl <;> rfl⟩
          refine sv (L:=R0.length+1+1) rfl (.tmp 120) (.tmp 122) Ld (Fq 6) (aA.DT.fH ab) dJ rfl rfl rfl (by intro j u hu;simpa[go_sem] using hu) rfl fh fh ?_;intro A7 c7 W7 S7 aa cF cM;have a8:=Vm (zE bk ab aa aA.gn.2) (Vm (zE q0 ab aa ae) (Vm (zE q1 ab aa ae) (Vm (zE q2 ab aa ae) (Vm (zE q3 ab aa ae) (Vm (zE q4 ab aa ae) (zE q5 ab aa ae))))));have cO:=(aa.block P.g (Wt.1 (aA.grow ab).box).1 aA.gn.2).trans (aA.grow ab).box;obtain⟨_,_,_,_,_,_,_,_,_,_,_,_,_,zf,zl⟩:=pH cO;clear cO;refine hK.out _ _ a8 ?_;clear hK
          try simp only[lay]
          refine .tq 8 [9,10] a8 ?_;refine .tq 9 [10] a8 ?_;refine fL.last gU rfl gU (fun K hK=>?_);go_simp;refine hK.out _ _ ?_;clear hK
          try simp only[lay]
          have az:=(aA.grow ab).qA (rows':=(R0++[lR s T Av cv])++[([C Z (i:Int),J B1 (s.ft.length+1) d1,J B2 j d2,C Z a1,X M,J I 0 0]:D Value)]) (A':=A7) (c':=c7) aa (by simpa using cF) cM;have be:((R0++[lR s T Av cv])++[([C Z (i:Int),J B1 (s.ft.length+1) d1,J B2 j d2,C Z a1,X M,J I 0 0]:D Value)]).length=R0.length+1+1:=gm;have ew:([C Z (i:Int),J B1 (s.ft.length+1) d1,J B2 j d2,C Z a1,X M,J I 0 0]:D Value)=lR Vb ⟨B1,d1,S1,B2,d2,S2⟩ I 0:=by rw[a4];unfold lR;simp[bx]
          rw[be] at az;generalize W7.setCell _ _=w5 at az |-;obtain⟨bI,bO⟩:=az;rw[ew] at bI;have cn:fG (P.g::(Si++Ss)) w4 w5:=((bp.trans ab).only _).trans bO
          have cV:∀ b∈P.g::(Si++S7),b∈P.g::(Si++Ss)∨w4.heap.size<=b:=fun b hb=>by
           rcases VT.1 hb with h | hb
           ·exact .inl (by simp[h])
           ·rcases VA.1 hb with hb | hb
            ·exact .inl (by simp[hb])
            ·rcases cM b hb with h | h
             ·exact .inl (by simp[h])
             ·have h5:=(bp.trans ab).size;exact .inr fh
          have eR:=(af.out.hg.trans hgx).size
          have aL:∀ b,Y.heap.size<=b->b<wx.heap.size->b∉P.g::(Si++Ss):=fun b h5 h6 hm=>by
           rcases bM b hm with h | h
           ·have h8:=aP.out;have:=hB.st.jD.2.2.1 b h;omega
           ·omega
          have aE:∀ b,Y.heap.size<=b->b<wx.heap.size->b∉Lm:=fun b h5 h6 hm=>by have h8:=aP.out;have:=hB.st.jD.2.2.1 b hm;omega
          have aM:=(af.out.ha.fH hgx).lt;have aN:=(af.out.hb.fH hgx).lt;have dQ:=(((af.out.ha.fH hgx).gu b3 (fun b hb=>aE b (af.out.la b hb) (aM b hb))).gu cn (fun b hb=>aL b (af.out.la b hb) (aM b hb)))
          have dR:=(((af.out.hb.fH hgx).gu b3 (fun b hb=>aE b (af.out.lb b hb) (aN b hb))).gu cn (fun b hb=>aL b (af.out.lb b hb) (aN b hb)))
          have eu:=b3.size
          have cQ:∀ b,Y.heap.size<=b->b<wx.heap.size->b∉P.g::(Si++S7):=fun b h5 h6 hm=>by
           rcases cV b hm with h | h
           ·exact aL b h5 h6 h
           ·omega
          have bS:lV P ⟨B1,d1,S1,B2,d2,S2⟩ m4 (R0++[lR s T Av cv]) Vb w5 I 0 [] (P.g::(Si++S7)):=⟨⟨Ai,ci,Si,A7,c7,S7,bI,rfl⟩,by rw[a4];simpa using dQ,by rw[a4];simpa using dR,by rw[a4];exact Has.nil _ _ _,fun b hb=>⟨cQ b (af.out.la b hb) (aM b hb),gm⟩,fun b hb=>⟨cQ b (af.out.lb b hb) (aN b hb),gm⟩,gm,gm⟩
          obtain⟨e5,bY,_,_⟩:=hR.env.pc.body i x' HX.out cB.out;have bb:=aQ.out;have aD:=hLW ⟨B1,d1,S1,B2,d2,S2⟩ m4 (R0++[lR s T Av cv]) Vb w5 ((P.g::(Si++S7))++[]) (fs0++[s.f]) i e5 ⟨I,0,[],_,bS,rfl⟩ (hF.snoc s T Av cv) (by simp;omega) bt (by rw[a4]) (by rw[Vk,hfs,a4];simp) (by rw[a4];simp;omega) bb.ok (by have h5:=bb.cnt;omega) (by rw[a4]) bY (by have h5:=bb.fv;have h6:=aX.out;omega) (by have h5:=bb.fv;have h6:=aX.out;omega);obtain⟨⟨mL,lv⟩,hr⟩:∃ r,zX P.E (d+1) (fs0++[s.f]++[Vb.f]) Vb m4=r:=⟨_,rfl⟩
          rw[hr] at aD;have HR:=fk hr;have ds:=fk bS;have cy:=fk bY;clear hr bS bI bb bY a8 cF aA;go_upto_region 22 with(first | (go_at_call 204;refine aD.mono ?_;rintro e w6 ⟨rfl,h6⟩));obtain⟨L6,⟨cw,cD,cC,aG,bo,rfl⟩,dH,dE⟩:=h6;obtain⟨dx,eN,da,y0,y1,y2,y3,y4,y5,eA,eB,ez,ey⟩:=bo.row;have cj:(R0++[lR s T Av cv]).length=R0.length+1:=gm;obtain⟨n1,cY⟩:∃ n1,R0.length+1=n1:=⟨_,rfl⟩
          rw[cj,cY] at da y5;replace y5:Vg w6 ⟨dx,n1*6+5,I⟩=F (J cw lv.length cD):=y5;have es:Vl Z ((n1:Int)+1-1)=(n1:Int):=by rw[XM];exact iw
          have et:Vl Z (n1:Int)=(n1:Int):=iw;obtain⟨eC,eE⟩:=bo.st.fz;have cx:=fk bo;have dl:=fk (cj.trans cY);clear y0 y1 y2 y3 y4 bo cj;go_quiet (fail);go_upto_region 23 with(fail);refine yq 14 gU gU (fun w7 hg7=>?_);have ba:fy w6 w7:=fy.trans (b:=_) gF hg7;have az:=cx.out.fH ba;obtain⟨A8,c8,d8,cP,bh,aI,bP⟩:=az.st.pop;rw[dl.out] at d8 bh aI bP cP;obtain⟨fb,fe⟩:=az.st.fz;have bD:=fk az;have bG:=fk aI;have bE:=fk bP;clear da y5 eA eB ez ey eC eE az aI bP;simp only[Wz,Xk,WR,WQ]
          repeat still_step
          refine XZ ?_;have bF:=fk (show fG aG w7 (w7.setCell ⟨P.g,11,I⟩ (J A8 n1 c8)) from bE.out);have dk:=fk ((E7 hR.env d) (fs0++[s.f]++[Vb.f]) Vb m4 i e5 bt (by rw[a4]) (by rw[Vk,hfs,a4];simp) (by rw[a4];simp;omega) aQ.out.ok (by rw[a4]) cy.out (by have h5:=aQ.out.fv;have h6:=aX.out;omega) (by have h5:=aQ.out.fv;have h6:=aX.out;omega));have aR:=fk (bD.out.fI.gu bE.out (fun b hb=>bD.out.dv b hb));replace aR:Hid (Has (zv.sl 3) (w7.setCell ⟨P.g,11,I⟩ (J A8 n1 c8)) [J cw lv.length cD] lv cC):=aR
          have ei:lv.length<=9223372036854775807:=by
           obtain⟨A',c',h5,h6,h7,_⟩:=aR.out.read;injection h5 with h5 _
           injection h5 with hA hn hc
           omega
          go_wp2_with(fail);generalize hw8:w7.setCell _ _=w8 at bG bE aR |-;have dt:=fk hw8;clear hw8 d8 cP bh;obtain⟨nv,d0⟩:∃ n,mL.fx.length=n:=⟨_,rfl⟩
          have bf:=dk.out;rw[HR.out] at bf;have en:nv<=100000:=by have h5:=bf.1.cnt;have h6:=aQ.out.cnt;have h7:=cy.out.len;have h8:jJ d<=1000:=(by unfold jJ;omega);simp only at h5;omega
          have di:Hid (∀ q∈lv,iW mL.fx q):=fk bf.2;have dF:=fk bf.1.ok;have bm:=fk d0;have cm:fQ (nv:Int):=⟨fh,fh⟩
          clear bf d0;go_loopw [15] (fun z wi=>∃(q:Nat),z=C Z q/\q<=lv.length/\Hid (iv P (mL.jH (oJ mL.fx (lv.take q) nv)) (R0++[lR s T Av cv]) w8 aG wi)) (fun z _=>lv.length-(Wj z).toNat)
          case atStart=>exact⟨0,rfl,Vu _,fk (iv.refl bG.out)⟩
          case round=>
           obtain⟨q,rfl,hq,cI⟩:=hrel;obtain⟨Lq,aT,bQ,cG⟩:=cI.out;have b9:∀ b∈cC,b∉aG:=bD.out.dv;by_cases hql:q<lv.length
           ·have er:(q:Int)<(lv.length:Int):=fh
            have bi:lv[q]?=F lv[q]:=Vq hql;generalize lv[q]=jv at bi;obtain⟨gl,el,eJ,dA,ea,ca,_,_,_,dI,e0,dV,_,_⟩:=sA (aR.out.gu bQ b9).1 (aR.out.gu bQ b9).2 bi;obtain⟨rfl,_,_,rfl⟩:=dI;have yl:=dV 0 _ rfl;rw[show q*zv.size+0=q from by show q*1+0=q;omega] at yl;have hP:=NP (l:=mL.fx) (v:=(nv:Int)) bi;obtain⟨cU,ar⟩:=Bk (lv.take q) mL.fx nv;have cT:=cU.jump jv (di.out jv (Vx bi));obtain⟨l,cW⟩:∃ l,oJ mL.fx (lv.take q) nv=l:=⟨_,rfl⟩
            rw[cW] at hP aT ar cT;obtain⟨jn,xi,cg,ch,_⟩:=cT;have eW:jn<nv:=by have h5:=(Vh.1 ch).1;rw[ar,bm.out] at h5;exact h5
            have ef:(jn:Int)<(nv:Int):=fh;rw[cg] at yl;have dr:=fk aT;have dj:=fk ch;have HP:=fk hP;have dh:=fk cg;have aY:=fk ar;obtain⟨db,dw,bC⟩:=aT.uL;replace bC:_=F (J db l.length dw):=bC;rw[aY.out,bm.out] at bC;obtain⟨eD,eF⟩:=aT.fz;subst dA;clear hP aT ch cU ar cg cW bi;go_upto_region 27 with(fail);refine yq 16 gU gU (fun wy hgy=>?_);have bR:=dr.out.fH hgy;obtain⟨gi,du,cu,fd,_,fc,fa,bj⟩:=bR.arg (m:=mL.jH l) dj.out;replace cu:Vg wy ⟨P.g,10,I⟩=F (J (F ⟨gi,0,I⟩) l.length du):=cu;rw[aY.out,bm.out] at cu;obtain⟨xf,xl⟩:=bR.fz;have fg:=za hgy yl;obtain⟨p1,p2⟩:=bj nv cm
            have dq:Hid (iv P (mL.jH (oJ mL.fx (lv.take (q+1)) nv)) (R0++[lR s T Av cv]) w8 aG (wy.setCell ⟨gi,jn*7+1,I⟩ (C Z (nv:Int)))):=fk (by
             rw[HP.out,dh.out,Vy]
             exact⟨Lq,p1,(bQ.trans (hgy.only aG)).then p2 cG,cG⟩)
            clear bC yl eD eF bR bj p1 p2 ca e0;simp only[Wz,Xk,WR,WQ]
            repeat still_step
            refine XZ ?_;go_wp2_with(fail);go_roundw;exact⟨q+1,io,fh,dq⟩;exact iC
           ·obtain rfl:q=lv.length:=fh
            have er:¬ ((lv.length:Int)<(lv.length:Int)):=fh;have f3:Vl Z (dB+1)=dB+1:=iw;obtain⟨z0,z1,z2,z5,z6,z7,z8,z9,aV,zf,zl⟩:=aT.jl;have k9:Hid (iv P ((mL.jH (oJ mL.fx lv nv)).gR (dB+1)) (R0++[lR s T Av cv]) w8 aG (Wc _ ⟨P.g,9,I⟩ (C Z (dB+1)))):=fk (by have h9:=cI.out;rw[WG] at h9;exact h9.num rfl (fun _ _ _ _ _ _ _ _ _=>rfl))
            have dg:Hid (zL P.E (zX P.E (d+1)) (fs0++[s.f]) k s (i:Int) m=(mL.jH (oJ mL.fx lv nv)).gR (dB+1)):=fk (by
             unfold zL;simp only[dn.out,hX.symm];have e9:=HR.out;have e8:Vb.f=(i:Int):=by rw[a4]
             rw[e8] at e9;rw[e9,aQ.out.fv];simp only[bm.out]
             rw[show m.fv + -(na:Int)=dB from by have h6:=aX.out;omega])
            clear z0 z1 z2 z5 z6 z7 z8 aV;go_wp2_with(fail);have h6:∀ b∈aG,b∈(P.g::(Si++S7))++[]∨w5.heap.size<=b:=fun b hb=>dE b (VN _ hb);have j8:=iv.trans bG.out (by rw[<-dt.out];exact bF.out) (fun b hb=>.inl hb) k9.out;have j6:=iv.from ba j8;have j5:=iv.trans cx.out.st dH h6 j6;rw[Wu] at j5;have j4:=iv.trans ds.out.st cn cV j5;have jx:=iv.trans (⟨Ai,ci,Si,As,cs,Ss,bN,rfl⟩:kj P m4 (R0++[lR s T Av cv]) w4 (P.g::(Si++Ss))) b3 bM j4;have jW:=iv.from (b2.trans hgx) jx;exact Wp (v:=.tuple #[]) (by simp[VF,results219,go_sem]) rfl ⟨rfl,by rw[dg.out];exact hB.next jW⟩
end Go.Proofs.YthgbglbaemelhaaGreat
