/-
  PART.
-/
import Derived.Test.YtiihkapmggfjkaaGreatM19LawMakeDebug
import Derived.Test.YtiihkapmggfjkaaGreatM23LawMakeDebug
import Derived.StillTailTactics
set_option linter.unusedVariables false
set_option linter.unusedSimpArgs false
set_option maxRecDepth 100000
set_option maxHeartbeats 8000000
namespace Go.Proofs.YtiihkapmggfjkaaGreat
open Value renaming slice->J,int->F,bool->X
open IntKind renaming i64->I,wrap->Ll
open Option renaming none->V,some->H,map_some->Nk
open Bool renaming false->U,true->M
open Go renaming World->N,results->Ly,Value->LA,Calls->LR,Addr->Mh,yielded->NA
open World renaming cell?->Lg,frozen?->LD
open _root_.Int renaming toNat_natCast->Lw
open RowKit renaming intOf->Ml
open List renaming take_succ_cons->Mm,take_zero->MN
open Region renaming wanted->MI,ready->MK,Mode->Nz,noSelect->ND,free->Oq
open Tryz
open Go.RowKit
variable {Av:K Mh}{L Lm S Sv:Q Nat}{P:ig}{R0 rows:Q (Q LA)}{W W' W1 W2:N}{cv k:Nat}{f g tgt:Int}{fs:Q Int}{m:fW}{s:fL}
structure kX (P:ig):Prop where
 hp:(zM.sl 87).R P.Y P.Y.heap.size [J P.A P.E.p.length P.c] P.E.p
 hs:∀ x∈P.E.p,x.fP.length<=1099511627776/\x.Expr.length<=1099511627776
 env:ij P.E
theorem kX.hl (h:kX P):P.E.p.length<=1099511627776:=LO h.env.pc.len (by decide)
theorem kX.up {P:ig}{W:N}(h:kX P)(hg:fF P.Y W):(zM.sl 87).R W W.heap.size [J P.A P.E.p.length P.c] P.E.p:=Ty.up _ h.hp hg
def iW (fs:Q Int)(rows:Q (Q LA)):Prop:=rows.map (fun r=>r[0]?)=fs.map (fun f=>H (F I f))
theorem iW.len (h:iW fs rows):rows.length=fs.length:=by
 have:=MY List.length h;simpa using this
theorem iW.at {fs:Q Int}{rows:Q (Q LA)}(h:iW fs rows){k:Nat}{r:Q LA}(hk:rows[k]?=H r):∃ f,fs[k]?=H f/\r[0]?=H (F I f):=by
 have h1:=MY (fun l=>l[k]?) h;simp only[NX,hk,Nk] at h1;cases hf:fs[k]? with
 | none=>rw[hf] at h1;cases h1
 | some f=>
  rw[hf] at h1;exact⟨f,rfl,by simpa using h1⟩
theorem ID (hf:fs[k]?=H f)(h:(fs.take k).any (fun f=>decide (f=g))=U)(hfg:f≠g):(fs.take (k+1)).any (fun f=>decide (f=g))=U:=by
 rw[ME,hf,List.any_append,h];simp[hfg]
theorem Jy (hf:fs[k]?=H f)(hfg:f=g):fs.any (fun f=>decide (f=g))=M:=by
 rw[Nv];exact⟨f,LP hf,by simp[hfg]⟩
theorem sK {g:Prop} (f:g:=by
  go_wp2_with(fail)
  exact Ln (v:=X U) (by simp[Ly,results256,go_sem]) rfl ⟨by rw[HF.out],hgA.trans gF⟩):g:=f
theorem zko (h:jk P m rows W L)(hR:kX P)(hF:iW fs rows)(hln:m.items.length<=100000)(hn:0<rows.length/\rows.length<=100)(hg:0<=g/\g<=1000) :
  LR prog 256 #[.pointer (H ⟨P.g,0,V⟩),F I g] W fun r W'=>r=.returned (X (zT P.E fs m g))/\fF W W':=by
 have ab:=h.iX.2.2.2.2;have hp:=hR.up ab;have hl:=hR.hl;have ai:=hR.env.pc.len;have ag:=hR.env.inl;obtain⟨e,he⟩:∃ e,zJ P.E.p g=e:=⟨_,rfl⟩
 have aj : -1<=e/\e<=60:=by
  rcases po P.E.p g with h1 | ⟨a,e',h1,h2,h3⟩
  ·omega
  ·have:=h3.len;omega
 have HE:=fE he;have aa:=hF.len;have a8:Hid (zT P.E fs m g=(decide ((rows.length:Int)-1<P.E.inl) && (decide (e-g<=9) && (decide ((m.items.length:Int)<200) && !(fs.any fun f=>decide (f=g)))))):=fE (by unfold zT;rw[he,aa]);have ac:=fE aa;clear aa he;obtain⟨Ai,ci,Si,As,cs,Ss,hB,rfl⟩:=h;obtain⟨z0,z1,z2,z3,z4,z5,z6,z7,z8,z9,a2,a3,aq,zf,zl⟩:=mC hB.box;have an:Ll I ((rows.length:Int)-1)=(rows.length:Int)-1:=iw;have ao:Ll I (e-g)=e-g:=iw;by_cases c1:(rows.length:Int)-1<P.E.inl
 rotate_left
 ·have HF:Hid (zT P.E fs m g=U):=fE (by rw[a8.out,LK c1];rfl)
  have ad:P.E.inl<=(rows.length:Int)-1:=by omega
  clear c1;go_enter func256,ntmps256;go_upto_region 1 with(fail);go_quiet ((first | (fail)));go_wp2_with(fail);exact Ln (v:=X U) (by simp[Ly,results256,go_sem]) rfl ⟨by rw[HF.out],gG⟩
 have ad:¬ (P.E.inl<=(rows.length:Int)-1):=by omega
 obtain⟨d2,a4⟩:∃ b,decide (9<e-g)=b:=⟨_,rfl⟩
 obtain⟨d3,a5⟩:∃ b,decide (200<=(m.items.length:Int))=b:=⟨_,rfl⟩
 go_enter func256,ntmps256;go_upto_region 1 with(fail);refine kC (fun w'=>Lg w' ⟨P.g,0,V⟩=H (J P.A P.E.p.length P.c)/\Lg w' ⟨P.g,2,V⟩=H (F I P.E.inl)/\Lg w' ⟨P.g,10,V⟩=H (J Ai m.items.length ci)/\Lg w' ⟨P.g,11,V⟩=H (J As rows.length cs)) 30 (by kernel_rfl) (Ls (zb z0) (Ls (zb z2) (Ls (zb a2) (zb a3)))) (fun hH=>?_);have a9:fF W W.drew:=(fF.refl _).drew;clear z0 z2 a2 a3;generalize W.drew=wx at a9 hH |-;obtain⟨z0,z2,a2,a3⟩:=id hH;refine .tk 0 [1,2,3,4,5,11,12,22,23,30] hH ?_;refine .tk 1 [2,3,4,5,11,12,22,23,30] hH ?_;refine .tk 2 [3,4,5,11,12,22,23,30] hH ?_;refine .tk 3 [4,5,11,12,22,23,30] hH ?_;refine .tk 4 [5,11,12,22,23,30] hH ?_;refine .tk 5 [11,12,22,23,30] hH ?_;refine .tk 6 [7,8,9,10,11,12,22,23,30] hH ?_;refine .tk 7 [8,9,10,11,12,22,23,30] hH ?_;refine .tk 8 [9,10,11,12,22,23,30] hH ?_;refine .tk 9 [10,11,12,22,23,30] hH ?_;refine .tk 10 [11,12,22,23,30] hH ?_;refine .tk 11 [12,22,23,30] hH ?_;refine .tk 12 [22,23,30] hH ?_;refine .tk 13 [14,15,16,18,23,30] hH ?_;refine .tk 14 [15,16,18,23,30] hH ?_;refine .tk 15 [16,18,23,30] hH ?_;refine .tk 16 [18,23,30] hH ?_;refine .tk 17 [18,23,30] hH ?_;refine .tk 19 [20,21,22,23,30] hH ?_;refine fX.one (i:=18) (by kernel_rfl) rfl (fun Le hK=>?_);go_simp;go_at_call 94;(with_reducible refine(zbn (Ty.up _ hp a9) hl).mono ?_);rw[HE.out];rintro e v1 ⟨rfl,a6⟩;have a7:=a9.trans a6;have z0:=za a6 z0;have z2:=za a6 z2;have a2:=za a6 a2;have a3:=za a6 a3;refine hK.out _ _ (Ls z0 (Ls z2 (Ls a2 a3))) (fun hI=>?_);clear hK hH;have hH:=hI
 try simp only[lay]
 refine .tk 20 [21,22,23,30] hH ?_;refine .tk 21 [22,23,30] hH ?_;refine .tk 22 [23,30] hH ?_;refine .tk 23 [30] hH ?_;cases d2 with
 | true=>
  have HF:Hid (zT P.E fs m g=U):=fE (by rw[a8.out,LK (p:=e-g<=9) (by have:=Ng a4;omega)];simp);clear a4 a5;refine .sk 24 [25,26,27,28,29,30] hH ?_;refine .sk 25 [26,27,28,29,30] hH ?_;refine .sk 26 [27,28,29,30] hH ?_;refine .sk 27 [28,29,30] hH ?_;refine .sk 28 [29,30] hH ?_;refine .sk 29 [30] hH ?_;refine fX.last (by kernel_rfl) rfl (by kernel_rfl) (fun Le hK=>?_);go_simp;refine hK.out _ _ ?_;clear hK
  try simp only[lay]
  have hgA:fF W _:=a7;exact sK
 | false=>
  refine .tk 24 [25,26,27,28,29,30] hH ?_;refine .tk 25 [26,27,28,29,30] hH ?_;refine .tk 26 [27,28,29,30] hH ?_;refine .tk 27 [28,29,30] hH ?_;refine .tk 28 [29,30] hH ?_;refine .tk 29 [30] hH ?_;refine fX.last (by kernel_rfl) rfl (by kernel_rfl) (fun Le hK=>?_);go_simp;refine hK.out _ _ ?_;clear hK
  try simp only[lay]
  have hgA:fF W _:=a7;cases d3 with
  | true=>
   have HF:Hid (zT P.E fs m g=U):=fE (by rw[a8.out,LK (p:=(m.items.length:Int)<200) (by have:=Ng a5;omega)];simp);clear a4 a5;exact sK
  | false=>
   have HF:Hid (zT P.E fs m g = !(fs.any fun f=>decide (f=g))):=fE (by rw[a8.out,LN c1,LN (p:=e-g<=9) (by have:=Oo a4;omega),LN (p:=(m.items.length:Int)<200) (by have:=Oo a5;omega)];rfl);clear a4 a5 c1;go_wp2_with(fail);go_loopw [5] (fun z wr=>∃(k:Nat),z=F I k/\k<=rows.length/\Hid (fF W wr)/\Hid ((fs.take k).any (fun f=>decide (f=g))=U)) (fun z _=>rows.length-(Ml z).toNat)
   case atStart=>exact⟨0,rfl,Lv _,fE (hgA.trans gF),fE rfl⟩
   case round=>
    obtain⟨k,rfl,hk,hG,hA⟩:=hrel;have a1:=hG.out;have ap:=(mC (zj hB.box a1)).2.2.2.2.2.2.2.2.2.2.2.1;have yf:∀ j,LD wr ⟨P.g,j,V⟩=U:=(mC (zj hB.box a1)).2.2.2.2.2.2.2.2.2.2.2.2.2.1;by_cases hlt:k<rows.length
    ·have hr:rows[k]?=H rows[k]:=Lo hlt
     obtain⟨f,hf,h0⟩:=hF.at hr;obtain⟨gs,rfl,al,ae,ak,am,a0,_⟩:=Ey hB.mu hr;have x0:=za a1 (a0 0 _ h0);rw[Nat.add_zero] at x0;have ah:(k:Int)<(rows.length:Int):=by omega
     have af:=Li ae a1.size;by_cases hfg:f=g
     ·have hb:(f == g)=M:=LM.2 hfg
      have HT:Hid (zT P.E fs m g=U):=fE (by rw[HF.out,Jy hf hfg];rfl);clear hfg hr a0 h0;go_wp2_with(fail);exact Ln (v:=X U) (by simp[Ly,results256,go_sem]) rfl ⟨by rw[HT.out],a1.trans gF⟩
     ·have hb:(f == g)=U:=Lk.2 hfg
      have HA:=fE (ID hf hA.out hfg);clear hfg hr a0 h0;go_wp2_with(fail);go_roundw;exact⟨k+1,by go_num,by omega,fE (hG.out.trans gF),HA⟩;exact gL
    ·obtain rfl:k=rows.length:=by omega
     have ah:¬ ((rows.length:Int)<(rows.length:Int)):=by omega
     have HT:Hid (zT P.E fs m g=M):=fE (by rw[HF.out];have h1:=hA.out;rw[ac.out,MJ] at h1;rw[h1];rfl);go_wp2_with(fail);exact Ln (v:=X M) (by simp[Ly,results256,go_sem]) rfl ⟨by rw[HT.out],a1.trans gF⟩
theorem mv {P:Program} {id:Nat} {Ld:Exit->Act->N->Prop} {a:Act} {w:N} {l:Q Oper} (n:Nat)(hm:P.follows .mixedOrders=M)(hB:Region.lexTailB .any l.toArray n=M)
  (h:∀ w',fF w w'->wpStill P l.toArray w' (fun a'=>wpList P l.toArray Ld (l.drop n) a' w') (l.take n) a):(Code.region id l.toArray M).wp P Ld a w:=
 wp_region_still_tail n hm hB (h w.drew ((fF.refl _).drew))
theorem jk.fz (h:jk P m rows W L):(∀ j,LD W ⟨P.g,j,V⟩=U)/\P.g<W.heap.size:=by
 obtain⟨Ai,ci,Si,As,cs,Ss,h,rfl⟩:=h;exact⟨(mC h.box).2.2.2.2.2.2.2.2.2.2.2.2.2.1,(blt h.box)⟩
def pf:Ty (Int × Int):=zF.prod zF
theorem Ag:kK pf:=nO zP zP
theorem Ki:(prog.info? 265).map (fun i=>(i.zero,i.size,i.bytes))=H (H (.agg #[F I 0,F I 0]),2,16):=by kernel_rfl
theorem AN:iI prog 262 265 pf 16:=by
 obtain⟨i0,hi,a0,a1,a2⟩:=Nf Ki;exact⟨underlying262,⟨i0,_,hi,a0,a1,a2,rfl⟩,by decide⟩
theorem KC {e:TypeId} {A:K Mh} {n c:Nat} {xs:Q (Int × Int)} {x:Int × Int} (h:Has (pf.sl e) W [J A n c] xs S)(hx:xs[k]?=H x) :
  ∃ g,A=H ⟨g,0,V⟩/\g∈S/\g<W.heap.size/\Lg W ⟨g,k*2,V⟩=H (F I x.1)/\Lg W ⟨g,k*2+1,V⟩=H (F I x.2)/\fV x.1/\fV x.2:=by
 obtain⟨g,ec,Sc,rfl,a1,a2,_,_,_,hO,_,a0,_,_⟩:=mN h.1 h.2 hx;obtain⟨_,_,_,_,rfl,rfl,⟨rfl,b1,b2,rfl⟩,⟨rfl,b3,b4,rfl⟩⟩:=hO;exact⟨g,rfl,a1,a2,a0 0 _ rfl,a0 1 _ rfl,⟨b1,b2⟩,⟨b3,b4⟩⟩
theorem Gz {l:Q fS} {es:Q (Int × Int)} {e:Int × Int} {v:Int} (h:es[k]?=H e):kV l (es.take (k+1)) tgt v=if e.1=tgt then zL (kV l (es.take k) tgt v) e.2.toNat v else kV l (es.take k) tgt v:=by
 unfold kV;rw[ME,h,Ov];rfl
theorem zsu {es:Q (Int × Int)} {Ae:K Mh} {ce:Nat} {Se:Q Nat} (h:jk P m rows W L)(he:Has (pf.sl 265) W [J Ae es.length ce] es Se)(hd:∀ b∈Se,b∉L)
  (hj:∀ e∈es,ie m.items e.2) (hln:m.items.length<=100000) (hel:es.length<=100000) :
  LR prog 238 #[.pointer (H ⟨P.g,0,V⟩),J Ae es.length ce,F I tgt] W fun r W'=>r=.returned (.tuple #[])/\gI P (zV m es tgt) rows W L W':=by
 have h0:=h.iX.2.1;go_enter func238,ntmps238;go_wp2_with(fail);go_loopw [6] (fun z wr=>∃(k:Nat),z=F I k/\k<=es.length/\Hid (gI P (m.gU (kV m.items (es.take k) tgt m.items.length)) rows W L wr)) (fun z _=>es.length-(Ml z).toNat)
 case atStart=>exact⟨0,rfl,Lv _,fE (gI.refl h)⟩
 case round=>
  obtain⟨k,rfl,hk,hN⟩:=hrel;by_cases hlt:k<es.length
  ·have hx:es[k]?=H es[k]:=Lo hlt
   generalize es[k]=e at hx;have am:(k:Int)<(es.length:Int):=by omega
   obtain⟨L1,hS,hO,hL⟩:=hN.out;obtain⟨g2,ag,aj,a6,y0,y1,b0,b1⟩:=KC (he.fU hO hd) hx;have hP:=Gz (l:=m.items) (tgt:=tgt) (v:=m.items.length) hx;obtain⟨a8,a0⟩:=qI (es.take k) m.items tgt m.items.length;have aa:=a8.jump e.2 (hj e (LP hx));obtain⟨l,hl⟩:∃ l,kV m.items (es.take k) tgt m.items.length=l:=⟨_,rfl⟩
   rw[hl] at hP hS a0 aa;obtain⟨j,x,a7,a4,_⟩:=aa;obtain⟨gi,ci,a3,ak,al,ai,ah,a1⟩:=hS.arg (m:=m.gU l) a4;obtain⟨zf,zl⟩:=hS.fz;obtain⟨n,hn⟩:∃ n,m.items.length=n:=⟨_,rfl⟩
   have a3:Lg wr ⟨P.g,10,V⟩=H (J (H ⟨gi,0,V⟩) n ci):=by rw[a3];simp only[fW.gU,a0,hn]
   have ar:j<n:=by have:=(Lh.1 a4).1;omega
   have aq:(j:Int)<(n:Int):=by omega
   rw[hn] at hP hln a0;have an:fV (n:Int):=⟨by omega,by omega⟩
   subst ag;by_cases hto:e.1=tgt
   ·have hb:(e.1 == tgt)=M:=LM.2 hto
    rw[a7] at y1;have HS:=fE hS;have HO:=fE (show fJ L W wr from hO);have HL:=fE hL;have HP:=fE hP;have ae:=fE a4;have af:=fE hto;have ac:=fE a7;have ad:=fE a0;clear hto hP a1 hx hN hS hO he hd hj hl a8 hL a4 a7 ah;go_upto_region 4 with(fail);refine mv 17 (by kernel_rfl) (by kernel_rfl) (fun wx hgx=>?_);have a5:=HS.out.fO hgx;obtain⟨a9,ap,ab,aw,_,av,au,a2⟩:=a5.arg (m:=m.gU l) ae.out;obtain⟨xf,xl⟩:=a5.fz
    obtain rfl:a9=gi:=by
     have h9:=za hgx a3;rw[ab] at h9;simp only[Mg,Nb,OI] at h9;exact h9.1.1
    have ao:=za hgx a3;have ax:=za hgx y0;have ay:=za hgx y1;obtain⟨p1,p2⟩:=a2 n an
    have HN:Hid (gI P (m.gU (kV m.items (es.take (k+1)) tgt m.items.length)) rows W L (wx.setCell ⟨a9,j*7+1,V⟩ (F I (n:Int)))):=fE (by
     rw[hn,HP.out,Lu af.out,ac.out,Lw]
     exact⟨L1,p1,(HO.out.trans (hgx.only L)).then p2 HL.out,HL.out⟩)
    clear a3 y0 y1 zf zl a5 ab a2 p1 p2 ai ak a6;simp only[Mm,MN,Mr,Mt]
    repeat still_step
    refine M6 ?_;go_wp2_with(fail);go_roundw;exact⟨k+1,by go_num,by omega,HN⟩;exact gL
   ·have hb:(e.1 == tgt)=U:=Lk.2 hto
    have HN:Hid (gI P (m.gU (kV m.items (es.take (k+1)) tgt m.items.length)) rows W L wr):=fE (by
     rw[hn,hP,Lt hto,<-hl]
     exact hN.out)
    clear hto hP a1 hx hN hS hO he hd hj hl a8;go_wp2_with(fail);go_roundw;exact⟨k+1,by go_num,by omega,HN⟩;exact gL
  ·obtain rfl:k=es.length:=by omega
   have am:¬ ((es.length:Int)<(es.length:Int)):=by omega
   have HN:Hid (gI P (zV m es tgt) rows W L wr):=fE (by have h9:=hN.out;rw[MJ] at h9;exact h9);go_wp2_with(fail);exact MF (v:=.tuple #[]) (by simp[Ly,results238,go_sem]) rfl ⟨rfl,HN.out⟩
theorem jk.row (h:jk P m rows W L){k:Nat}{r:Q LA}(hr:rows[k]?=H r) :
  ∃ gs cs,Lg W ⟨P.g,11,V⟩=H (J (H ⟨gs,0,V⟩) rows.length cs)/\gs∈L/\gs<W.heap.size/\gs≠P.g/\(∀ j,LD W ⟨gs,j,V⟩=U)/\r.length=6/\(∀ j u,r[j]?=H u->Lg W ⟨gs,k*6+j,V⟩=H u)/\
   ∀ j u,j<6->u.oneCell'=M->jk P m (rows.set k (r.set j u)) (W.setCell ⟨gs,k*6+j,V⟩ u) L/\fJ L W (W.setCell ⟨gs,k*6+j,V⟩ u):=by
 obtain⟨Ai,ci,Si,As,cs,Ss,h,rfl⟩:=h;obtain⟨gs,rfl,a2,a4,a3,a5,a0,a1⟩:=Ey h.mu hr;refine⟨gs,cs,(mC h.box).2.2.2.2.2.2.2.2.2.2.2.1,by simp[a2],a4,fun e=>h.gn.2 (e ▸ a2),a3,a5,a0,fun j u hj hu=>?_⟩;obtain⟨h1,h2⟩:=a1 j u hj hu;refine⟨⟨Ai,ci,Si,H ⟨gs,0,V⟩,cs,Ss,⟨?_,h.its.fU h2 (fun b hb hm=>h.kZ b hb hm),by rw[Ma];exact h1,h.kZ,h.gn,h2.fO h.fO h.low.2.2,h.low⟩,rfl⟩,h2.mono (fun b hb=>by simp[hb])⟩;rw[Ma];exact(h2.block P.g (blt h.box) h.gn.2).trans h.box
theorem jk.fU {P:ig}{m:fW}{rows:Q (Q LA)}{W W':N}{L S:Q Nat}(h:jk P m rows W L)(ho:fJ S W W')(hS:∀ b∈S,b∉L/\P.Y.heap.size<=b):jk P m rows W' L:=by
 obtain⟨Ai,ci,Si,As,cs,Ss,h,rfl⟩:=h;exact⟨Ai,ci,Si,As,cs,Ss,h.fU ho (fun b hb=>⟨fun e=>(hS b hb).1 (by simp[e]),fun hm=>(hS b hb).1 (by simp[hm]),fun hm=>(hS b hb).1 (by simp[hm]),(hS b hb).2⟩),rfl⟩
structure gT where
 Ac:K Mh
 cc:Nat
 Sc:Q Nat
 Al:K Mh
 cl:Nat
 Sl:Q Nat
def j0 (s:fL)(T:gT)(Av:K Mh)(cv:Nat):Q LA:=[F I s.f,J T.Ac s.chain.length T.cc,J T.Al s.locals.length T.cl,F I s.first,X s.outer,J Av s.leaves.length cv]
structure kg (P:ig)(T:gT)(m:fW)(R0:Q (Q LA))(s:fL)(W:N)(Av:K Mh)(cv:Nat)(Sv Lm:Q Nat):Prop where
 st:jk P m (R0++[j0 s T Av cv]) W Lm
 chain:Has (zF.sl 3) W [J T.Ac s.chain.length T.cc] s.chain T.Sc
 locals:Has (iH.sl 9) W [J T.Al s.locals.length T.cl] s.locals T.Sl
 leaves:Has (zF.sl 3) W [J Av s.leaves.length cv] s.leaves Sv
 dc:∀ b∈T.Sc,b∉Lm/\b∉Sv
 dl:∀ b∈T.Sl,b∉Lm/\b∉Sv
 dv:∀ b∈Sv,b∉Lm
 lv:∀ b∈Sv,P.Y.heap.size<=b
def mH (P:ig)(T:gT)(m:fW)(R0:Q (Q LA))(s:fL)(W:N)(L:Q Nat):Prop:=∃ Av cv Sv Lm,kg P T m R0 s W Av cv Sv Lm/\L=Lm++Sv
def gA (P:ig)(T:gT)(m':fW)(R0:Q (Q LA))(s':fL)(W:N)(L:Q Nat)(W':N):Prop:=∃ L',mH P T m' R0 s' W' L'/\fJ L W W'/\∀ b∈L',b∈L∨W.heap.size<=b
theorem qj {L':Q Nat} (h:∀ b∈S,b∉L)(hl:∀ b∈S,b<W.heap.size)(hL:∀ b∈L',b∈L∨W.heap.size<=b):∀ b∈S,b∉L':=fun b hb hm=>by
 rcases hL b hm with h1 | h1
 ·exact h b hb h1
 ·have:=hl b hb;omega
theorem kg.fO {P:ig}{T:gT}{m:fW}{R0:Q (Q LA)}{s:fL}{W W':N}{Av:K Mh}{cv:Nat}{Sv Lm:Q Nat}(h:kg P T m R0 s W Av cv Sv Lm)(hg:fF W W'):kg P T m R0 s W' Av cv Sv Lm:=
 ⟨h.st.fO hg,h.chain.fO hg,h.locals.fO hg,h.leaves.fO hg,h.dc,h.dl,h.dv,h.lv⟩
theorem mH.fO {P:ig}{T:gT}{m:fW}{R0:Q (Q LA)}{s:fL}{W W':N}{L:Q Nat}(h:mH P T m R0 s W L)(hg:fF W W'):mH P T m R0 s W' L:=by
 obtain⟨Av,cv,Sv,Lm,h,rfl⟩:=h;exact⟨Av,cv,Sv,Lm,h.fO hg,rfl⟩
theorem gA.refl {P:ig}{T:gT}{m:fW}{R0:Q (Q LA)}{s:fL}{W:N}{L:Q Nat}(h:mH P T m R0 s W L):gA P T m R0 s W L W:=⟨L,h,fJ.refl _ _,fun _ hb=>.inl hb⟩
theorem gA.fO {P:ig}{T:gT}{m:fW}{R0:Q (Q LA)}{s:fL}{W W' W2:N}{L:Q Nat}(h:gA P T m R0 s W L W')(hg:fF W' W2):gA P T m R0 s W L W2:=by
 obtain⟨L',h1,h2,h3⟩:=h;exact⟨L',h1.fO hg,h2.trans (hg.only L),h3⟩
theorem gA.from {T:gT} (hg:fF W W1)(h:gA P T m R0 s W1 L W2):gA P T m R0 s W L W2:=by
 exact mU
theorem gA.trans {T:gT} {m2:fW} {s2:fL} {L1:Q Nat} (ho:fJ L W W1)(hl:∀ b∈L1,b∈L∨W.heap.size<=b)(k:gA P T m2 R0 s2 W1 L1 W2):gA P T m2 R0 s2 W L W2:=by
 exact mS
theorem kg.next {T:gT} {m':fW} (h:kg P T m R0 s W Av cv Sv Lm)(k:gI P m' (R0++[j0 s T Av cv]) W Lm W'):gA P T m' R0 s W (Lm++Sv) W':=by
 obtain⟨L',h1,h2,h3⟩:=k;refine⟨L'++Sv,⟨Av,cv,Sv,L',⟨h1,h.chain.fU h2 (fun b hb=>(h.dc b hb).1),h.locals.fU h2 (fun b hb=>(h.dl b hb).1),h.leaves.fU h2 h.dv,fun b hb=>⟨qj (fun b hb=>(h.dc b hb).1) h.chain.lt h3 b hb,(h.dc b hb).2⟩,fun b hb=>⟨qj (fun b hb=>(h.dl b hb).1) h.locals.lt h3 b hb,(h.dl b hb).2⟩,qj h.dv h.leaves.lt h3,h.lv⟩,rfl⟩,h2.mono (fun b hb=>LW _ hb),fun b hb=>?_⟩;rcases LG.1 hb with hb | hb
 ·exact(h3 b hb).imp (fun h=>LW _ h) id
 ·exact .inl (Mc _ hb)
theorem kg.num {P:ig}{T:gT}{m m':fW}{R0:Q (Q LA)}{s:fL}{W:N}{Av:K Mh}{cv:Nat}{Sv Lm:Q Nat}(h:kg P T m R0 s W Av cv Sv Lm){i:Nat}{v:LA}(hi:m'.items=m.items)
  (hrow:∀ a b c d e f g x y,(#[a,b,c,d,e,f,g,F I m.gK,F I P.E.args,F I m.depth,x,y,X m.start]:Array LA).setIfInBounds i v=#[a,b,c,d,e,f,g,F I m'.gK,F I P.E.args,F I m'.depth,x,y,X m'.start]) :
  gA P T m' R0 s W (Lm++Sv) (W.setCell ⟨P.g,i,V⟩ v):=h.next ((gI.refl h.st).num hi hrow)
theorem gA.num {P:ig}{T:gT}{m m':fW}{R0:Q (Q LA)}{s:fL}{W W':N}{L:Q Nat}(h:gA P T m R0 s W L W'){i:Nat}{v:LA}(hi:m'.items=m.items)
  (hrow:∀ a b c d e f g x y,(#[a,b,c,d,e,f,g,F I m.gK,F I P.E.args,F I m.depth,x,y,X m.start]:Array LA).setIfInBounds i v=#[a,b,c,d,e,f,g,F I m'.gK,F I P.E.args,F I m'.depth,x,y,X m'.start]) :
  gA P T m' R0 s W L (W'.setCell ⟨P.g,i,V⟩ v):=by
 obtain⟨L',⟨Av,cv,Sv,Lm,h,rfl⟩,h2,h3⟩:=h;exact gA.trans h2 h3 (h.num hi hrow)
theorem kg.leaf {T:gT} {A':K Mh} {c':Nat} {S':Q Nat} {lv:Q Int} {gs:Nat} (h:kg P T m R0 s W Av cv Sv Lm)(hon:fJ Sv W W')(hH:Has (zF.sl 3) W' [J A' lv.length c'] lv S')(hS:∀ b∈S',b∈Sv∨W.heap.size<=b)
  (hz:∃ cs,Lg W' ⟨P.g,11,V⟩=H (J (H ⟨gs,0,V⟩) (R0.length+1) cs)) :
  gA P T m R0 ⟨s.f,s.chain,s.locals,s.first,s.outer,lv⟩ W (Lm++Sv) (W'.setCell ⟨gs,R0.length*6+5,V⟩ (J A' lv.length c')):=by
 obtain⟨cs,hz⟩:=hz;have h1:=h.st.fU hon (fun b hb=>⟨h.dv b hb,h.lv b hb⟩);have hr:(R0++[j0 s T Av cv])[R0.length]?=H (j0 s T Av cv):=by rw[LV (Lz _),Mq];rfl
 obtain⟨a5,a7,a6,a9,aa,ab,a8,ad,a0,a3⟩:=h1.row hr
 obtain rfl:a5=gs:=by
  rw[a6] at hz;simp only[Mg,Nb,OI] at hz;exact hz.1.1
 obtain⟨p1,p2⟩:=a3 5 (J A' lv.length c') (by decide) rfl
 have a4:(R0++[j0 s T Av cv]).set R0.length ((j0 s T Av cv).set 5 (J A' lv.length c'))=R0++[j0 ⟨s.f,s.chain,s.locals,s.first,s.outer,lv⟩ T A' c']:=by
  rw[N9 _ _ (Lz _),Mq];rfl
 rw[a4] at p1;have ac:=h1.iX;have hc:=(h.chain.fU hon (fun b hb=>(h.dc b hb).2)).fU p2 (fun b hb=>(h.dc b hb).1);have hl:=(h.locals.fU hon (fun b hb=>(h.dl b hb).2)).fU p2 (fun b hb=>(h.dl b hb).1);have a1:=h.chain.lt;have a2:=h.locals.lt
 have hd:∀ b∈S',b∉Lm:=fun b hb hm=>by
  rcases hS b hb with h2 | h2
  ·exact h.dv b h2 hm
  ·have:=h.st.iX.2.2.1 b hm;omega
 refine⟨Lm++S',⟨A',c',S',Lm,⟨p1,hc,hl,hH.fU p2 hd,fun b hb=>⟨(h.dc b hb).1,fun hm=>?_⟩,fun b hb=>⟨(h.dl b hb).1,fun hm=>?_⟩,hd,fun b hb=>?_⟩,rfl⟩,?_,fun b hb=>?_⟩
 ·rcases hS b hm with h2 | h2
  ·exact(h.dc b hb).2 h2
  ·have:=a1 b hb;omega
 ·rcases hS b hm with h2 | h2
  ·exact(h.dl b hb).2 h2
  ·have:=a2 b hb;omega
 ·rcases hS b hb with h2 | h2
  ·exact h.lv b h2
  ·have:=h.st.iX.2.2.2.2.size;omega
 ·exact(hon.mono (fun b hb=>Mc _ hb)).trans (p2.mono (fun b hb=>LW _ hb))
 ·rcases LG.1 hb with hb | hb
  ·exact .inl (LW _ hb)
  ·exact(hS b hb).imp (fun h=>Mc _ h) id
theorem kg.row {P:ig}{T:gT}{m:fW}{R0:Q (Q LA)}{s:fL}{W:N}{Av:K Mh}{cv:Nat}{Sv Lm:Q Nat}(h:kg P T m R0 s W Av cv Sv Lm):∃ gs cs,
  Lg W ⟨P.g,11,V⟩=H (J (H ⟨gs,0,V⟩) (R0.length+1) cs)/\Lg W ⟨gs,R0.length*6,V⟩=H (F I s.f)/\Lg W ⟨gs,R0.length*6+1,V⟩=H (J T.Ac s.chain.length T.cc)/\Lg W ⟨gs,R0.length*6+2,V⟩=H (J T.Al s.locals.length T.cl)/\Lg W ⟨gs,R0.length*6+3,V⟩=H (F I s.first)/\Lg W ⟨gs,R0.length*6+4,V⟩=H (X s.outer)/\Lg W ⟨gs,R0.length*6+5,V⟩=H (J Av s.leaves.length cv)/\gs<W.heap.size/\gs≠P.g/\(∀ j,LD W ⟨gs,j,V⟩=U)/\gs∈Lm:=by
 have hr:(R0++[j0 s T Av cv])[R0.length]?=H (j0 s T Av cv):=by rw[LV (Lz _),Mq];rfl
 obtain⟨gs,cs,a1,a3,a4,a5,a2,a7,a0,a6⟩:=h.st.row hr;rw[Lj] at a1;exact⟨gs,cs,a1,a0 0 _ rfl,a0 1 _ rfl,a0 2 _ rfl,a0 3 _ rfl,a0 4 _ rfl,a0 5 _ rfl,a4,a5,a2,a3⟩
end Go.Proofs.YtiihkapmggfjkaaGreat
