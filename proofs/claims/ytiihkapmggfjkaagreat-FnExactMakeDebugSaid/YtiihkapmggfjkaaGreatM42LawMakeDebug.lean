/-
  PART.
-/
import Derived.Test.YtiihkapmggfjkaaGreatM40LawMakeDebug
import Derived.Test.YtiihkapmggfjkaaGreatM41LawMakeDebug
set_option linter.unusedVariables false
set_option linter.unusedSimpArgs false
set_option maxRecDepth 100000
set_option maxHeartbeats 8000000
namespace Go.Proofs.YtiihkapmggfjkaaGreat
open Value renaming slice->J,int->F,bool->X,string->G
open IntKind renaming i64->I
open Option renaming none->V,some->H,map_some->Nk
open Obj renaming cells->C
open Bool renaming false->U,true->M
open Go renaming World->N,results->Ly,Value->LA,Calls->LR,Addr->Mh,yielded->NA
open World renaming cell?->Lg,frozen?->LD,setCell->MH
open _root_.Int renaming toNat_natCast->Lw
open List renaming length_cons->LJ,getElem?_cons_zero->Mf,set_cons_zero->Mi,length_nil->Mk,nil_append->Mw
open RowKit renaming intOf->Ml
open Region renaming wanted->MI,ready->MK,Mode->Nz,noSelect->ND,free->Oq
open Tryz
open Go.RowKit
variable {A:K Mh}{S S' S0:Q Nat}{W W' Wa a w:N}{b:gC}{c f k lo n:Nat}{e:TypeId}{g image sk words:Int}{l:Q fS}{p xs:Q fG}{r:Q LA}{rs:Q (Q LA)}{st:Q Int}{x:fS}
def mE (p:Q fG)(b:gC)(f:Nat)(words:Int)(g:Int):gd:=⟨p,b.Inline,kB b f,words,((zU p g).length:Int)⟩
def lg (p:Q fG)(g:Int):fL:=⟨g,[],zq p g,0,M,[]⟩
def lE (p:Q fG)(b:gC)(f:Nat)(words:Int)(g:Int):fW:=(zv (mE p b f words g) ⟨[],0,((zq p g).length:Int)-((zU p g).length:Int),U⟩ (if kB b f=M then 13 else 15) words g []).fZ words
theorem xH (hg:(zk p)[f]?=H g):kH p b f words=((zH (mE p b f words g) 4 [g] (lg p g) (lE p b f words g)).1.items,(zH (mE p b f words g) 4 [g] (lg p g) (lE p b f words g)).1.gK):=by
 unfold kH;rw[hg];rfl
theorem Dc (hp:j9 p)(hb:gW b.Inline 0 3=M)(hg:(zk p)[f]?=H g)(hw:0<=words/\words<=100) :
  ij (mE p b f words g)/\iA (mE p b f words g) (lg p g)/\iq (mE p b f words g) (lE p b f words g)/\∃(i e:Nat) (x:fG),g=(i:Int)/\p[i]?=H x/\x.fP=zU p g/\gg p i e/\x.fP.length<=4/\(zq p g).length<=8/\x.fP.length<=(zq p g).length:=by
 have a2:=vM hg
 have hE:ij (mE p b f words g):=by
  obtain⟨i,rfl,x,hx,h0⟩:=a2;have:=hp.args i x hx;exact⟨hp,zX.1 hb,hw,by unfold mE;rw[qk hx];exact⟨by simp only;omega,by simp only;omega⟩⟩
 have a0:=a2.parts hE;simp only[mE] at a0;obtain⟨i,rfl,x,hx,h0⟩:=a2;obtain⟨e,he,h8,a3⟩:=hp.body i x hx h0;have a7:=(Lh.1 hx).1;have a5:=qk hx
 have hs:iA (mE p b f words i) (lg p i):=by
  refine⟨⟨i,e,x,rfl,hx,h0,he,a3⟩,⟨rfl,h8⟩,⟨N2 _,by simp[lg]⟩,⟨by simp[lg],fun c hc=>(by cases hc)⟩,fun _=>⟨rfl,rfl,by show ((zU p (i:Int)).length:Int)<=((zq p (i:Int)).length:Int);omega⟩⟩
 have hm:iq (mE p b f words i) (lE p b f words i):=by
  refine⟨?_,by simp[lE,zv,fW.fZ]⟩;intro j y hy;have a6:=(Lh.1 hy).1;simp only[lE,fW.fZ,zv,Mw,LJ,Mk] at a6;have hj:j=0:=by omega
  subst hj;simp only[lE,fW.fZ,zv,Mw,Mf,Mg] at hy;subst hy;have a4:zG p (i:Int)=0:=by rw[lq hx];exact h0
  simp only[lE,fW.fZ,zv,Mw,mD,Mk,NH,decide_false,OQ];have a1:(if kB b f=M then (13:Int) else 15)=13∨(if kB b f=M then (13:Int) else 15)=15:=by split <;> simp
  generalize (if kB b f=M then (13:Int) else 15)=code at a1;refine⟨by simp only;omega,fun h=>by simp only at h;omega,fun h h'=>by simp only at h h';omega,fun h=>by simp only at h;omega,fun h=>by simp only at h;omega,fun _ _=>hw,fun h=>by simp only at h;omega,⟨by simp only;omega,by simp only[mE];omega⟩,⟨by simp,fun c hc=>(by cases hc)⟩,⟨by simp,by simp,fun h=>(by cases h)⟩,⟨fun _=>?_,fun _=>rfl⟩⟩;rcases a1 with h | h
  ·exact .inl h
  ·exact .inr ⟨h,a4⟩
 exact⟨hE,hs,hm,i,e,x,rfl,hx,a5.symm,he,hp.args i x hx,h8,by rw[<-a5];exact a0.2.1⟩
theorem Cl {K3:Int} (h0:0<=K3)(h1:K3<=63)(f:Nat):(bits .and I (K3 / 2 ^ f) 1 == 1)=decide (K3 / 2 ^ f % 2=1):=by
 obtain⟨n,rfl⟩:=M1 h0;have he:((n:Int) / 2 ^ f)=((n / 2 ^ f:Nat):Int):=by rw[Int.natCast_ediv,Int.natCast_pow];rfl
 have a0:n / 2 ^ f<=n:=Nat.div_le_self _ _;rw[he,DW _ (by omega)];cases h:decide ((((n / 2 ^ f:Nat):Int)) % 2=1) with
 | true=>rw[NR] at h;rw[h];rfl
 | false=>rw[Me] at h;exact Lk.2 h
def ri (x:Q fS × Int)(w:N)(r:Ending)(w':N):Prop:=∃ A c S,r=.returned (.tuple #[J A x.1.length c,F I x.2])/\Has (lL.sl 131) w' [J A x.1.length c] x.1 S/\(∀ b∈S,w.heap.size<=b)/\fF w w'
theorem xw {a:Mh} {v:LA} (h:W.cell? a=H v):W.setCell a v=W:=by
 unfold Lg at h;unfold MH;split at h
 ·rename_i c e f hc
  split at h
  ·cases h
  ·rename_i hs
   have:W.heap.modify a.block (fun
    | C c elem frozen=>C (if a.spot.isSome then c else c.setIfInBounds a.off v) elem frozen
    | o=>o)=W.heap:=by
    apply Om
    intro i
    rw[Oy]
    split
    ·rename_i hi
     subst hi;rw[hc];simp only[Nk,hs,Lt,OH,not_false_eq_true];congr 2;apply Om;intro k;rw[Array.getElem?_setIfInBounds];split
     ·rename_i hk
      subst hk;split
      ·exact h.symm
      ·rename_i hk2
       rw[NF (by omega)]
     ·rfl
    ·rfl
   exact MY (fun h=>({ W with heap:=h }:N)) this
 ·cases h
theorem D4 (h:Has (zM.sl e) w [J A n c] xs S){k:Nat}{x:fG}(hx:xs[k]?=H x) :
  ∃ g,A=H ⟨g,0,V⟩/\g∈S/\g<w.heap.size/\(∀ j,LD w ⟨g,j,V⟩=U)/\(∃ u,Lg w ⟨g,k*4+3,V⟩=H u)/\
   (∀(ys:Q gu) (Ay:K Mh) (cy:Nat) (Sy:Q Nat),Has (iz.sl 159) w [J Ay ys.length cy] ys Sy->(∀ b∈Sy,b∉S)->
    fJ [g] w (w.setCell ⟨g,k*4+3,V⟩ (J Ay ys.length cy))/\∃ S',Has (zM.sl e) (w.setCell ⟨g,k*4+3,V⟩ (J Ay ys.length cy)) [J A n c] (xs.set k { x with Expr:=ys }) S'/\∀ b∈S',b∈S∨b∈Sy):=by
 obtain⟨g,ec,Sc,h1,h2,h3,h4,h5,h6,h7,h8,h9⟩:=JQ h hx;obtain⟨A0,c0,S0,A1,c1,S1,rfl,rfl,b0,b1,a0,a1⟩:=Az h6.1;have hz:zM.size=4:=rfl;rw[hz] at h8 h9;have k0:=h8 0 _ rfl;have k1:=h8 1 _ rfl;have k2:=h8 2 _ rfl;have k3:=h8 3 _ rfl;refine⟨g,h1,h2,h3,h7,⟨_,k3⟩,fun ys Ay cy Sy hy hd=>?_⟩;have hn:=(Ms.1 h6.2).1
 obtain⟨g1,S',g2,g3⟩:=h9 [F I x.Kind,G x.Name,J A0 x.fP.length c0,J Ay ys.length cy] { x with Expr:=ys } (S0++Sy) (yQ (x:={ x with Expr:=ys }) b0 b1 ⟨a0,hn⟩ hy (fun b hb hm=>hd b hm (h5 b (by simp[hb])))) (fun b hb=>by
  rcases LG.1 hb with hm | hm
  ·exact .inr (by simp[hm])
  ·exact .inl (hd b hm))
 have hw:setRow w g (k*4) 0 [F I x.Kind,G x.Name,J A0 x.fP.length c0,J Ay ys.length cy]=w.setCell ⟨g,k*4+3,V⟩ (J Ay ys.length cy):=by
  simp only[setRow,Mb];rw[xw k0,xw k1,xw k2]
 rw[hw] at g1 g2;refine⟨g1,S',g2,fun b hb=>?_⟩;rcases g3 b hb with hm | hm
 ·exact .inl hm
 ·rcases LG.1 hm with hm | hm
  ·exact .inl (h5 b (by simp[hm]))
  ·exact .inr hm
def m7 (xs:Q fG)(k:Nat):Q fG:=(xs.take k).map zI++xs.drop k
theorem JL (xs:Q fG){k:Nat}(h:k<=xs.length):(m7 xs k).length=xs.length:=by unfold m7;simp;omega
theorem Ek {x:fG} (h:xs[k]?=H x):(m7 xs k)[k]?=H x:=by
 have hk:=(Lh.1 h).1;unfold m7;rw[LV (by simp;omega)];simp[N7 (ON hk),h]
theorem DP {x:fG} (h:xs[k]?=H x):(m7 xs k).set k (zI x)=m7 xs (k+1):=by
 obtain⟨hk,rfl⟩:=Lh.1 h;unfold m7;have hl:((xs.take k).map zI).length=k:=by simp;omega
 rw[N9 _ _ (by omega),hl,Mq,LI hk,Mi,ME,h,Nu,LZ];rfl
theorem Hw {x:fG} (h:xs[k]?=H x)(h0:zI x=x):m7 xs k=m7 xs (k+1):=by
 obtain⟨a0,a1⟩:=Lh.1 (Ek h);rw[<-DP h,h0];have e:=List.set_getElem_self a0;rw[a1] at e;exact e.symm
theorem zoq (hx:(zM.sl 87).R w w.heap.size [J A xs.length c] xs)(hl:xs.length<=1099511627776)(hs:∀ x∈xs,x.fP.length<=1099511627776/\x.Expr.length<=1099511627776) :
  LR prog 179 #[J A xs.length c] w (AJ (mh xs) w):=by
 rcases LH (zs xs) with hp | hp
 rotate_left
 ·have HP:=fE hp
  have HF:Hid (mh xs = []):=fE (by unfold mh;rw[Lt (by rw[hp];decide)]);clear hp;go_enter func179,ntmps179;go_wp2_with(first | (go_at_call 31;(with_reducible refine(za8 hx hl hs).mono ?_);rw[HP.out];rintro e1 v1 ⟨rfl,a2⟩));refine Ln (v:=J (H ⟨v1.heap.size,0,V⟩) 0 0) (by simp[Ly,results179,go_sem]) rfl ?_;exact⟨H ⟨v1.heap.size,0,V⟩,0,[v1.heap.size],by rw[HF.out];rfl,by rw[HF.out];exact Has.emp zM (Lp _ _),fun b hb=>(by simp only[Lr] at hb;subst hb;exact a2.size),a2.trans gF⟩
 have HP:=fE hp;have HF:Hid (mh xs=xs.map zI):=fE (by unfold mh;rw[Lu hp]);clear hp;go_enter func179,ntmps179;go_wp2_with(first | (go_at_call 31;(with_reducible refine(za8 hx hl hs).mono ?_);rw[HP.out];rintro e1 v1 ⟨rfl,a2⟩) | (go_at_call 219;(with_reducible refine(zpD (Ty.up _ hx (a2.trans gF)) hl hs).mono ?_);rintro e2 v2 ⟨A2,c2,S2,rfl,am,ap,ar⟩));have aa:fF w v2:=a2.trans (fF.trans (b:=_) gF ar);have a9:∀ b∈S2,w.heap.size<=b:=fun b hb=>by have h1:=ap b hb;have h2:=a2.size;(try simp at h1);omega
 go_loopw [4] (fun j wr=>∃(k:Nat) (S:Q Nat),j=F I k/\k<=xs.length/\Hid (fF w wr)/\Hid (Has (zM.sl 87) wr [J A2 xs.length c2] (m7 xs k) S)/\Hid (∀ b∈S,w.heap.size<=b)) (fun j _=>xs.length-(Ml j).toNat)
 case atStart=>exact⟨0,S2,rfl,Lv _,fE (aa.trans gF),fE (by unfold m7;simpa using am.fO gF),fE a9⟩
 case round=>
  obtain⟨k,S,rfl,hk,hG,hH,hS⟩:=hrel;by_cases hlt:k<xs.length
  ·have a0:xs[k]?=H xs[k]:=Lo hlt
   obtain⟨x,ag⟩:∃ x,xs[k]=x:=⟨_,rfl⟩
   rw[ag] at a0;have aF:=JL xs hk;have a3:=Ek a0;obtain⟨g,aI,x',aA,aC,aB,aD,a6,aE,a1,x0,x1,x2,x3,b0,b1,h2,h3⟩:=jb hH.out.read (k:=k) (by omega);obtain rfl:x'=x:=by rw[a3] at a1;injection a1 with h;exact h.symm
   obtain⟨g9,ab,au,af,ad,⟨u,hu⟩,a4⟩:=D4 hH.out a3;rw[ab] at a6;injection a6 with a6
   injection a6 with e1 e2
   subst e1 e2;subst ab;have ax:(k:Int)<(xs.length:Int):=by omega
   have az:=(hs x' (LP a0)).2;simp only[Mb] at x0 x1 x2 x3;clear ag a1;by_cases h0:0<x'.Expr.length
   ·have aj:(x'.Expr.length:Int) > 0:=by omega
    have ak:0<(x'.Expr.length:Int):=by omega
    have ah:Hid (zI x' = { x' with Expr:=mg x'.Expr }):=fE (by unfold zI;rw[Lu h0]);have a7:Hid ((m7 xs k).set k (zI x')=m7 xs (k+1)):=fE (DP a0);have ai:=fE a3;clear h0 a0 a3 a4 ad hu af;go_wp2_with(first | (go_at_call 220;(with_reducible refine(zoo (Ty.up _ h3 gF) az).mono ?_);rintro e3 v3 ⟨A4,c4,S4,rfl,an,ac,ae⟩;obtain⟨g',a8,av,aw,aq,⟨u',aG⟩,a5⟩:=D4 (hH.out.fO (fF.trans (b:=_) gF ae)) ai.out;injection a8 with a8;injection a8 with e1 e2;subst e1));go_roundw
    case measure=>exact gL
    case rel=>
     have aH:=hG.out.size;obtain⟨ay,S',al,ao⟩:=a5 (mg x'.Expr) A4 c4 S4 an (fun b hb hm=>by have h1:=ac b hb;have h2:=hH.out.lt b hm;(try simp at h1);omega);refine⟨k+1,S',by go_num,by omega,fE ((ay.fO (hG.out.trans (fF.trans (b:=_) gF ae)) (fun b hb=>by simp only[Lr] at hb;subst hb;exact hS.out _ au)).trans gF),fE ?_,fE (fun b hb=>?_)⟩
     ·rw[<-a7.out,ah.out];exact al.fO gF
     ·rcases ao b hb with h | h
      ·exact hS.out b h
      ·have:=ac b h;(try simp at this);omega
   ·have aj:¬ ((x'.Expr.length:Int) > 0):=by omega
    have ak:¬ (0<(x'.Expr.length:Int)):=by omega
    have a7:Hid (m7 xs k=m7 xs (k+1)):=fE (Hw a0 (by unfold zI;rw[Lt h0]));clear h0 a0 a3 a4 ad hu af;go_wp2_with(fail);go_roundw;exact⟨k+1,S,by go_num,by omega,fE (hG.out.trans gF),fE (by rw[<-a7.out];exact hH.out.fO gF),hS⟩;exact gL
  ·obtain rfl:k=xs.length:=by omega
   have ax:¬ ((xs.length:Int)<(xs.length:Int)):=by omega
   go_wp2_with(fail);refine Ln (v:=J A2 xs.length c2) (by simp[Ly,results179,go_sem]) rfl ?_;have h:=hH.out;unfold m7 at h;rw[MJ,LY,MC] at h;exact⟨A2,c2,S,by rw[HF.out,N8],by rw[HF.out,N8];exact h,hS.out,hG.out⟩
def ve (xs:Q fS)(w:N)(r:Ending)(w':N):Prop:=∃ A c S,r=.returned (J A xs.length c)/\Has (lL.sl 131) w' [J A xs.length c] xs S/\(∀ b∈S,w.heap.size<=b)/\fF w w'
theorem Cw (hF:lW p):∀ y∈p.map zI,y.fP.length<=1099511627776/\y.Expr.length<=1099511627776:=by
 intro y hy;obtain⟨i,hi⟩:=NZ hy;obtain⟨x,hx,rfl⟩:=tB hi;have ha:=hF.c.args i x hx;refine⟨by show x.fP.length<=_;omega,?_⟩
 have a0:x.Expr.length<=20/\(0<x.Expr.length->(mg x.Expr).length<=20):=by
  by_cases he:mM x.Kind=M
  ·have h1:=(qg (hF.line i x hx)).2.2.2
   unfold px at h1;rw[Lu he] at h1;obtain⟨e,g1,g2,g3,g4⟩:=vD h1;obtain⟨e',w1,w2,w3⟩:=e.iK g1;refine⟨g3,fun _=>?_⟩;rw[g4,<-w2,e'.gw];rw[g2,e.gw] at g3;omega
  ·have h1:=(qg (hF.line i x hx)).2.2.2
   unfold px at h1;rw[Lt he] at h1;simp only[LQ] at h1;exact⟨by omega,fun h=>by omega⟩
 show (if 0<x.Expr.length then mg x.Expr else x.Expr).length<=_;split
 ·rename_i h
  have:=a0.2 h;omega
 ·omega
def l9 (lo:Nat)(W:N)(S:Q Nat)(r:Q LA)(x:fQ):Prop:=∃ A0 c0 Sc,r = [F I x.Offset,F I x.Item.Op.Code,F I x.Item.Op.Arg,F I x.Item.fN,X x.Item.Start,J A0 x.Item.fH.length c0,F I x.Item.fK,X x.Item.fI]/\
 (zF.sl 3).O W [J A0 x.Item.fH.length c0] x.Item.fH Sc/\(∀ b∈Sc,b∉S/\lo<=b)/\fV x.Offset/\fV x.Item.Op.Code/\fV x.Item.Op.Arg/\fV x.Item.fN/\fV x.Item.fK
theorem l9.fU {x:fQ} (h:l9 lo W S r x)(ho:fJ S W W')(hS:∀ b∈S',b∈S∨W.heap.size<=b):l9 lo W' S' r x:=by
 obtain⟨A0,c0,Sc,h1,h2,h3,h4⟩:=h;have a0:=Ty.jB _ h2;refine⟨A0,c0,Sc,h1,Ty.hJ _ h2 (fun k hk=>ho.block k (a0 k hk) (h3 k hk).1),fun b hb=>⟨fun hm=>?_,(h3 b hb).2⟩,h4⟩;rcases hS b hm with h | h
 ·exact(h3 b hb).1 h
 ·have:=a0 b hb;omega
def gQ (lo:Nat)(W:N)(S:Q Nat)(rs:Q (Q LA))(xs:Q fQ):Prop:=rs.length=xs.length/\∀(i:Nat)(r:Q LA)(x:fQ),rs[i]?=H r->xs[i]?=H x->l9 lo W S r x
theorem gQ.nil (lo:Nat)(W:N)(S:Q Nat):gQ lo W S [] []:=⟨rfl,fun i r x h=>by simp at h⟩
theorem gQ.fU {lo:Nat}{W W':N}{S S':Q Nat}{rs:Q (Q LA)}{xs:Q fQ}(h:gQ lo W S rs xs)(ho:fJ S W W')(hS:∀ b∈S',b∈S∨W.heap.size<=b):gQ lo W' S' rs xs:=⟨h.1,fun i r x h1 h2=>(h.2 i r x h1 h2).fU ho hS⟩
theorem gQ.fO {xs:Q fQ} (h:gQ lo W S rs xs)(hg:fF W W'):gQ lo W' S rs xs:=h.fU (hg.only _) (fun _ hb=>.inl hb)
theorem gQ.snoc {xs:Q fQ} {x:fQ} (h:gQ lo W S rs xs)(hr:l9 lo W S r x):gQ lo W S (rs++[r]) (xs++[x]):=by
 refine⟨by simp[h.1],fun i r' x' h1 h2=>?_⟩;by_cases hi:i<rs.length
 ·rw[Md hi] at h1
  rw[Md (by rw[<-h.1];exact hi)] at h2;exact h.2 i r' x' h1 h2
 ·have hl:=(Lh.1 h1).1
  simp only[Lj,LJ,Mk] at hl;have a0:i=rs.length:=by omega
  subst a0;rw[LV (Lz _),Mq] at h1;rw[h.1,LV (Lz _),Mq] at h2;simp only[Mf,Mg] at h1 h2;subst h1;subst h2;exact hr
theorem gQ.read {lo:Nat}{W:N}{S:Q Nat}{rs:Q (Q LA)}{xs:Q fQ}{A:K Mh}{n c:Nat}(h:gQ lo W S rs xs)(hH:Has ((jK 8).sl 133) W [J A n c] rs S)(hn:n=xs.length):(oH.sl 133).R W W.heap.size [J A xs.length c] xs:=by
 obtain⟨A',c',h1,h2,h3,h4,h5⟩:=hH.read;injection h1 with h1 _
 injection h1 with e1 e2 e3
 subst e1;subst e3;refine⟨A,c,rfl,by rw[<-h.1];exact h2,h3,h4,fun hp=>?_⟩;obtain⟨g,a3,hA,a1,a0⟩:=h5 (by rw[h.1];exact hp);refine⟨g,a3,hA,a1,fun i x hx=>?_⟩;have a2:=(Lh.1 hx).1;have hr:rs[i]?=H (rs[i]'(by rw[h.1];exact a2)):=Lo _;obtain⟨ec,k1,k2⟩:=a0 i _ hr;obtain⟨k1,_,_⟩:=k1;obtain⟨A0,c0,Sc,p1,p2,_,p3,p4,p5,p6,p7⟩:=h.2 i _ x hr hx;refine⟨ec,?_,k2⟩;rw[k1,p1];exact G6 (x:=x) A0 c0 p3 p4 p5 p6 (Ty.read _ p2) p7
theorem gQ.only {L:Q Nat} {xs:Q fQ} (h:gQ lo W S rs xs)(ho:fJ L W W')(hL:∀ b∈L,b<lo):gQ lo W' S rs xs:=by
 refine⟨h.1,fun i r x h1 h2=>?_⟩;obtain⟨A0,c0,Sc,k1,k2,k3,k4⟩:=h.2 i r x h1 h2;exact⟨A0,c0,Sc,k1,Ty.hJ _ k2 (fun k hk=>ho.block k (Ty.jB _ k2 k hk) (fun hm=>by have:=hL k hm;have:=(k3 k hk).2;omega)),k3,k4⟩
theorem C7 (h:l[k]?=H x)(a:Int):jR (l.drop k) a=a::jR (l.drop (k+1)) (a+zA x.Op.Code):=by
 obtain⟨h1,rfl⟩:=Lh.1 h;rw[LI h1];rfl
theorem Ke (h:l[k]?=H x)(a:Int):kF (l.drop k) a=kF (l.drop (k+1)) (a+zA x.Op.Code):=by
 obtain⟨h1,rfl⟩:=Lh.1 h;rw[LI h1];rfl
theorem BU (h:l[k]?=H x):nJ st (l.drop k) k=lf st k x::nJ st (l.drop (k+1)) (k+1):=by
 obtain⟨h1,rfl⟩:=Lh.1 h;rw[LI h1];rfl
theorem yi:∀(l:Q fS)(a:Int),(jR l a).length=l.length+1
 | [],_=>rfl
 | x::r,a=>by simp[jR,yi r]
theorem yH:∀(l:Q fS)(a:Int),∀ v∈jR l a,a<=v/\v<=a+5*(l.length:Int)
 | [],a,v,h=>by simp only[jR,Lr] at h;subst h;simp
 | x::r,a,v,h=>by
  simp only[jR] at h;have ho:=qU x.Op.Code;rcases LU.1 h with rfl | h
  ·simp only[LJ];omega
  ·have:=yH r _ v h
   simp only[LJ];omega
theorem Ec:∀(l:Q fS)(a:Int),a<=kF l a/\kF l a<=a+5*(l.length:Int)
 | [],a=>by simp[kF]
 | x::r,a=>by
  have h:=Ec r (a+zA x.Op.Code);have h2:=qU x.Op.Code;simp only[kF,LJ];omega
theorem gQ.push {Y:N} {xs:Q fQ} {x:fQ} (h:gQ lo Y S rs xs)(hr:l9 lo Y S r x)(hg:fF Y Wa)(hon:fJ S Wa W')(hS:∀ b∈S',b∈S∨Wa.heap.size<=b):gQ lo W' S' (rs++[r]) (xs++[x]):=((h.snoc hr).fO hg).fU hon hS
theorem xL {b:N} (hO:fJ S0 a b)(hS:∀ x∈S,x∈S0∨a.heap.size<=x)(hg:fF b Wa)(hon:fJ S Wa W'):fJ S0 a W':=hO.then ((hg.only S).trans hon) hS
theorem yh {b:N} (hO:fJ S0 a b)(hS:∀ x∈S,x∈S0∨a.heap.size<=x)(hg:fF b Wa)(hS':∀ x∈S',x∈S∨Wa.heap.size<=x):∀ x∈S',x∈S0∨a.heap.size<=x:=fun x hx=>(hS' x hx).elim (hS x) (fun h=>.inr (LO (LO hO.size hg.size) h))
theorem vp (w:N)(B:Nat){v:Int}(h:fV v):zF.R w B [F I v] v:=⟨rfl,h.1,h.2⟩
theorem Bp {ag:Nat} {sa s1:Int} (hj:x.Op.Code=10∨x.Op.Code=11)(ha:x.Op.Arg=(ag:Int))(h0:st[k]?=H sk)(h1:st[ag]?=H sa)(h2:st[k+1]?=H s1):lf st k x=⟨sk,⟨⟨x.Op.Code,sa-s1⟩,x.fN,x.Start,x.fH,x.fK,x.fI⟩⟩:=by
 unfold lf;rw[Lu hj,ha,Lw];simp only[Mp,h0,h1,h2,Option.getD_some]
theorem Bo (hj:¬ (x.Op.Code=10∨x.Op.Code=11))(h0:st[k]?=H sk):lf st k x=⟨sk,⟨⟨x.Op.Code,x.Op.Arg⟩,x.fN,x.Start,x.fH,x.fK,x.fI⟩⟩:=by
 unfold lf;rw[Lt hj];simp only[Mp,h0,Option.getD_some]
theorem DY {xs:Q Int} (h:Has (zF.sl e) W [J A n c] xs S)(h0:0<xs.length):∃ g,A=H ⟨g,0,V⟩/\g∈S/\g<W.heap.size/\∀(k:Nat)(v:Int),xs[k]?=H v->Lg W ⟨g,k,V⟩=H (F I v)/\fV v:=by
 obtain⟨v0,a3⟩:∃ v,xs[0]?=H v:=⟨_,Lo h0⟩
 obtain⟨g,_,_,rfl,a1,a2,_⟩:=mN h.1 h.2 a3;refine⟨g,rfl,a1,a2,fun k v hk=>?_⟩;obtain⟨g',el,a4,hA,_,_,_,_,_,hO,_,hc,_⟩:=mN h.1 h.2 hk;injection hA with hA
 injection hA with hA
 subst hA;obtain⟨rfl,b1,b2,_⟩:=hO;have a0:=hc 0 _ rfl;rw[show k*zF.size+0=k from by show k*1+0=k;omega] at a0;exact⟨a0,b1,b2⟩
theorem G1:(prog.info? 133).map (fun i=>(i.zero,i.size,i.bytes))=H (H (.agg #[F I 0,F I 0,F I 0,F I 0,X U,J V 0 0,F I 0,X U]),8,80):=by kernel_rfl
theorem vg:iI prog 78 133 (jK 8) 80:=by
 obtain⟨i0,hi,a0,a1,a2⟩:=Nf G1;exact⟨underlying78,⟨i0,_,hi,a0,a1,a2,rfl⟩,by decide⟩
def py (xs:Q fQ)(w:N)(r:Ending)(w':N):Prop:=∃ A c rs S,r=.returned (J A xs.length c)/\Has ((jK 8).sl 133) w' [J A xs.length c] rs S/\gQ w.heap.size w' S rs xs/\(∀ b∈S,w.heap.size<=b)/\fF w w'
theorem Gh {a:Int} (h:f<n)(hi:me b f image=M):l0 p b image (n-f) f a=jD (jY p b f) a++l0 p b image (n-(f+1)) (f+1) (kF (jY p b f) a):=by
 rw[show n-f=n-(f+1)+1 from by omega];show (if _ then _ else _)=_;rw[Lu hi]
theorem sZ {g:Prop} (f:g:=by
  rw[show n-f=n-(f+1)+1 from by omega]
  show (if _ then _ else _)=_
  rw[Lt (by rw[hi];simp)]):g:=f
theorem GC {a:Int} (h:f<n)(hi:me b f image=U):l0 p b image (n-f) f a=l0 p b image (n-(f+1)) (f+1) a:=by
 exact sZ
theorem Gi {P:ig} {d:Nat} (hR:kX P)(hL:wM P d):wD P (d+1):=by
 intro T Z v7 pd s a3 k b hs hO a1 hd hk a2 hb m W L g h hm hc hg a0 h0 h1;exact zqd hL hR h hs hO hd a1 hm hc hg a0 h0 h1 hk a2 hb
theorem Cq {P:ig}(hR:kX P)(hEl:tI P.E.p):∀ d:Nat,wM P d
 | 0=>zlq hR hEl (Gj hR.env)
 | d+1=>zlq hR hEl (Gi hR (Cq hR hEl d))
end Go.Proofs.YtiihkapmggfjkaaGreat
