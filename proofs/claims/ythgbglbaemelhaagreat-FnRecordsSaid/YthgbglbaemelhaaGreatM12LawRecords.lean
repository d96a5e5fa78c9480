/-
  PART.
-/
import Derived.Test.YthgbglbaemelhaaGreatM11LawRecords
set_option linter.unusedVariables false
set_option linter.unusedSimpArgs false
set_option maxRecDepth 100000
set_option maxHeartbeats 8000000
namespace Go.Proofs.YthgbglbaemelhaaGreat
open Value renaming slice->J,int->C,bool->X,string->Q
open IntKind renaming i64->Z,wrap->Vl
open Option renaming none->I,some->F
open Obj renaming cells->U
open Bool renaming false->M,true->H
open Go renaming World->V,Calls->VK,Addr->VQ,TypeId->Wl,bytes->WZ,yielded->Xb,Ending->Z9
open World renaming cell?->Vg,frozen?->VE,alloc->WJ
open List renaming getElem?_cons_zero->VU,nil_append->Wo
open Region renaming wanted->V6
open RowKit renaming intOf->Wj
open _root_.Nat renaming add_zero->Wk
open Builtin renaming append_->WS
open Tryz
open Go.RowKit
variable {A:N VQ}{W w:V}{a b d:Int}{c g m n t z:Nat}{e:Wl}{l:D Int}{o:Obj}{ok:Bool}{s:G}{x:iy}
theorem FV (hn:l.length=n)(h0:0<n)(hn2:n<=1000)(hl:∀ x∈l,fQ x)(hc:∀ j x,l[j]?=F x->Vg W ⟨g,j,I⟩=F (C Z x)):(zv.sl e).R W (g+1) [J (F ⟨g,0,I⟩) n n] l:=by
 subst hn;refine⟨F ⟨g,0,I⟩,l.length,rfl,Vz _,fh,fun h=>(by cases h),fun _=>⟨g,0,rfl,Nat.lt_succ_self _,fun i x hx=>⟨[C Z x],?_,fun j u hu=>?_⟩⟩⟩
 ·have:=hl x (Vx hx)
  exact⟨rfl,this.1,this.2⟩
 ·have hj:j=0:=by
   have:=(Vh.1 hu).1;simpa using this
  subst hj;simp only[VU,VO] at hu;subst hu;have:=hc i x hx;simpa[show zv.size=1 from rfl] using this
theorem Lh {c:Int} (ha:fQ a)(hb:fQ b)(hc:fQ c)(hd:fQ d)(c0:Vg W ⟨g,0,I⟩=F (C Z a))(c1:Vg W ⟨g,1,I⟩=F (C Z b))(c2:Vg W ⟨g,2,I⟩=F (C Z c))(c3:Vg W ⟨g,3,I⟩=F (C Z d)):(zv.sl e).R W (g+1) [J (F ⟨g,0,I⟩) 4 4] [a,b,c,d]:=
 FV rfl gv gv (by simp only[VT,WB,Xy];rintro x (rfl | rfl | rfl | rfl) <;> assumption) (by
  intro j x h
  match j,h with
  | 0,h=>injection h with h;subst h;exact c0
  | 1,h=>injection h with h;subst h;exact c1
  | 2,h=>injection h with h;subst h;exact c2
  | 3,h=>injection h with h;subst h;exact c3
  | j+4,h=>cases h)
theorem Ua {c:Int} (ha:fQ a)(hb:fQ b)(hc:fQ c)(c0:Vg W ⟨g,0,I⟩=F (C Z a))(c1:Vg W ⟨g,1,I⟩=F (C Z b))(c2:Vg W ⟨g,2,I⟩=F (C Z c)):(zv.sl e).R W (g+1) [J (F ⟨g,0,I⟩) 3 3] [a,b,c]:=
 FV rfl gv gv (by simp only[VT,WB,Xy];rintro x (rfl | rfl | rfl) <;> assumption) (by
  intro j x h
  match j,h with
  | 0,h=>injection h with h;subst h;exact c0
  | 1,h=>injection h with h;subst h;exact c1
  | 2,h=>injection h with h;subst h;exact c2
  | j+3,h=>cases h)
theorem TZ (ha:fQ a)(hb:fQ b)(c0:Vg W ⟨g,0,I⟩=F (C Z a))(c1:Vg W ⟨g,1,I⟩=F (C Z b)):(zv.sl e).R W (g+1) [J (F ⟨g,0,I⟩) 2 2] [a,b]:=
 FV rfl gv gv (by simp only[VT,WB,Xy];rintro x (rfl | rfl) <;> assumption) (by
  intro j x h
  match j,h with
  | 0,h=>injection h with h;subst h;exact c0
  | 1,h=>injection h with h;subst h;exact c1
  | j+2,h=>cases h)
theorem LR (b:Bool):fQ (ui b):=by cases b <;> exact⟨gv,gv⟩
theorem zq2 (b:Bool)(w:V):VK prog 164 #[X b] w fun e w'=>e=.returned (C Z (ui b))/\fy w w':=by
 cases b
 ·go_enter func164,ntmps164
  go_wp2_with(fail);go_ret;exact⟨rfl,gG⟩
 ·go_enter func164,ntmps164
  go_wp2_with(fail);go_ret;exact⟨rfl,gG⟩
theorem xw {g:Prop} (f:g:=by
  go_wp2_with(go_at_call 119;refine(zlQ (l:=acc) (Ty.up _ hH.out.read gF) fh).mono ?_;rintro e w2 ⟨rfl,hG2⟩)
  go_ret
  exact⟨nu (by rw[HS.out,HE.out]),(hG.out.trans gF).trans hG2⟩):g:=f
theorem zi4 {xs:D iF} (hx:(mh.sl 205).R w w.heap.size [J A xs.length c] xs)(hl:xs.length<=268435455) :
  VK prog 120 #[J A xs.length c] w fun e w'=>e=.returned (Q (rr xs))/\fy w w':=by
 cases hok:sM 0 xs
 ·have HS:=fk (show rr xs=⟨#[]⟩ from by unfold rr;rw[Vo (by rw[hok];simp)];rfl)
  have HO:=fk hok;clear hok;go_enter func120,ntmps120;go_wp2_with(go_at_call 114;refine(zeV (Ty.up _ hx gG)).mono ?_;rw[HO.out];rintro e w1 ⟨rfl,a5,d1,rfl⟩);go_ret;exact⟨nu HS.out.symm,gG⟩
 ·have HS:=fk (show rr xs=kJ (sB xs 0) from by unfold rr;rw[Vs hok])
  have HO:=fk hok;clear hok;go_enter func120,ntmps120;go_wp2_with(go_at_call 114;refine(zeV (Ty.up _ hx gG)).mono ?_;rw[HO.out];rintro e w1 ⟨rfl,a5,d1,rfl⟩);go_loopw [3,4,5] (fun a b z wr=>∃(k:Nat) (last:Int) (acc:D Int) (B:N VQ) (d:Nat) (S:D Nat),a=J B acc.length d/\b=C Z last/\z=C Z k/\k<=xs.length/\0<=last/\last<=1000000/\acc.length<=4*k/\Hid (sM last (xs.drop k)=H)/\Hid (acc++sB (xs.drop k) last=sB xs 0)/\Hid (fy w wr)/\Hid (Has (zv.sl 3) wr [J B acc.length d] acc S)/\Hid (∀ b∈S,w.heap.size<=b)) (fun _ _ z _=>xs.length-(Wj z).toNat)
  case atStart=>exact⟨0,0,[],_,0,[w.heap.size+a5.size],rfl,rfl,rfl,Vu _,Xv _,fh,gm,HO,fk rfl,fk gF,fk (Has.iK zv (by have:=Vj (fH w a5 d1) (U #[] 3);rwa [mJ] at this)),fk (fun b hb=>by simp only[Vi] at hb;omega)⟩
  case round=>
   obtain⟨k,last,acc,B,d,S,rfl,rfl,rfl,hk,ae,af,ad,hR,HT,hG,hH,hS⟩:=hrel;by_cases hlt:k<xs.length
   ·have ac:(k:Int)<(xs.length:Int):=fh
    obtain⟨g,a3,x,hA,ab,a4,x0,x1,x2,x3,b0,b1,b3⟩:=LQ hx hlt;subst hA;have hr:=hR.out;rw[DX a4,Vt] at hr;obtain⟨a6,a7⟩:=hr;obtain⟨e1,e2,e3,e4,_⟩:=CZ.1 a6;have a8:=fk a7;have HN:=fk (OJ a4 last);have ag:Vl Z (x.fA-last)=x.fA-last:=iw;have ah:Vl Z (x.iD-x.fA)=x.iD-x.fA:=iw;have ai:Vl Z ((k:Int)+1)=(k:Int)+1:=iw;have h1:fQ (x.fA-last):=⟨fh,fh⟩
    have h2:fQ (x.iD-x.fA):=⟨fh,fh⟩
    clear a4 a6 a7 e4;have x0:=zN hG.out x0;have x1:=zN hG.out x1;have x2:=zN hG.out x2;have x3:=zN hG.out x3;have a2:g<wr.heap.size:=Vn ab hG.out.size;have a1:g∉S:=fun hm=>by have h:=hS.out g hm;omega
    go_upto_region 8 with(fail);go_region_held3 (fun w'=>Vg w' ⟨g,a3+k*4,I⟩=F (C Z x.fA)/\Vg w' ⟨g,a3+k*4+1,I⟩=F (C Z x.iD)/\Vg w' ⟨g,a3+k*4+2,I⟩=F (X x.Frame)/\Vg w' ⟨g,a3+k*4+3,I⟩=F (C Z x.fT)) ((repeat' apply Vm) <;> ((repeat (first | with_reducible assumption | with_reducible refine zd ?_ _ _ | with_reducible refine zq ?_ _ | with_reducible refine zc ?_ | with_reducible refine ow ?_ _));done)) (first | (go_at_call 164;refine(zq2 _ _).mono ?_;rintro e w2 ⟨rfl,aj,di,rfl⟩) | (refine rj (L:=acc.length+4) rfl (.tmp 16) (.tmp 46) me zI (hH.out.fH gF) (ys:=[x.fA-last,x.iD-x.fA,ui x.Frame,x.fT]) (Lh (e:=3) h1 h2 (LR x.Frame) b3 (by simp[go_sem]) (by simp[go_sem]) (by simp[go_sem]) (by simp[go_sem])) rfl rfl rfl rfl fh fh ?_;intro B3 c3 W8 S8 a0 a9 aa;have x0:=(a0.cell (g:=g) (Vn a2 (fy.size gF)) a1 _).trans (zN gF x0);have x1:=(a0.cell (g:=g) (Vn a2 (fy.size gF)) a1 _).trans (zN gF x1);have x2:=(a0.cell (g:=g) (Vn a2 (fy.size gF)) a1 _).trans (zN gF x2);have x3:=(a0.cell (g:=g) (Vn a2 (fy.size gF)) a1 _).trans (zN gF x3)))
    all_goals go_wp2_with(fail)
    all_goals go_roundw
    exact⟨k+1,x.iD,acc++[x.fA-last,x.iD-x.fA,ui x.Frame,x.fT],B3,c3,S8,gm,rfl,io,fh,fh,fh,by simp;omega,a8,fk (by rw[<-HT.out,HN.out];simp),fk (a0.fH (hG.out.trans gF) hS.out),fk (by simpa using a9),fk (fun b hb=>(aa b hb).elim (hS.out b) (fun h=>VL (hG.out.trans gF).size h))⟩;exact iC
   ·obtain rfl:k=xs.length:=fh
    have ac:¬ ((xs.length:Int)<(xs.length:Int)):=fh;have HE:Hid (acc=sB xs 0):=fk (by have h:=HT.out;rw[VW] at h;simpa[sB] using h);exact xw
theorem zkt {xs:D jk} (hx:(nk.sl 216).R w w.heap.size [J A xs.length c] xs)(hl:xs.length<=268435455) :
  VK prog 121 #[J A xs.length c] w fun e w'=>e=.returned (Q (rC xs))/\fy w w':=by
 cases hok:sQ (-1) xs
 ·have HS:=fk (show rC xs=⟨#[]⟩ from by unfold rC;rw[Vo (by rw[hok];simp)];rfl)
  have HO:=fk hok;clear hok;go_enter func121,ntmps121;go_wp2_with(go_at_call 115;refine(zfV (Ty.up _ hx gG)).mono ?_;rw[HO.out];rintro e w1 ⟨rfl,a0,d1,rfl⟩);go_ret;exact⟨nu HS.out.symm,gG⟩
 ·have HS:=fk (show rC xs=kJ (sH xs 0 0) from by unfold rC;rw[Vs hok])
  have HO:=fk hok;clear hok;go_enter func121,ntmps121;go_wp2_with(go_at_call 115;refine(zfV (Ty.up _ hx gG)).mono ?_;rw[HO.out];rintro e w1 ⟨rfl,a0,d1,rfl⟩);go_loopw [3,5] (fun a z wr=>∃(k:Nat) (o n:Int) (bs:Bool) (pr:Int) (acc:D Int) (B:N VQ) (d:Nat) (S:D Nat),a=J B acc.length d/\z=C Z k/\k<=xs.length/\0<=o/\o<=1000000/\0<=n/\n<=1000000/\acc.length<=3*k/\Hid (sQ pr (xs.drop k)=H)/\Hid (acc++sH (xs.drop k) o n=sH xs 0 0)/\Hid (fy w wr)/\Hid (Has (zv.sl 3) wr [J B acc.length d] acc S)/\Hid (∀ b∈S,w.heap.size<=b/\b≠w.heap.size+a0.size+1)/\wr.heap[w.heap.size+a0.size+1]?=F (U #[C Z o,C Z n,X bs] 216 (0,0))) (fun _ z _=>xs.length-(Wj z).toNat)
  case atStart=>
   exact⟨0,0,0,M,-1,[],_,0,[w.heap.size+a0.size],rfl,rfl,Vu _,Xv _,fh,Xv _,fh,gm,HO,fk rfl,fk gF,fk (Has.iK zv (by have:=Vj (fH w a0 d1) (U #[] 3);rw[mJ] at this;exact zj this gF)),fk (fun b hb=>by simp only[Vi] at hb;omega),by
    have:=Vj ((fH w a0 d1).alloc (U #[] 3)) (U #[C Z 0,C Z 0,X M] 216);rw[VH,mJ] at this
    exact this⟩
  case round=>
   obtain⟨k,o,n,bs,pr,acc,B,d,S,rfl,rfl,hk,al,am,aj,ak,ah,hR,HT,hG,hH,hS,a9⟩:=hrel;have ae:w.heap.size<=w.heap.size+a0.size+1:=fh;generalize w.heap.size+a0.size+1=g5 at *
   by_cases hlt:k<xs.length
   ·have ag:(k:Int)<(xs.length:Int):=fh
    obtain⟨g,a5,x,hA,af,a4,x0,x1,x2,b0,b1⟩:=Gf hx hlt;subst hA;have hr:=hR.out;rw[Bx a4,Vt] at hr;obtain⟨aa,ab⟩:=hr;obtain⟨e1,e2,e3⟩:=Tm.1 aa;have ac:=fk ab;have HN:=fk (PC a4 o n);have an:Vl Z (x.fN-o)=x.fN-o:=iw;have ao:Vl Z (x.fZ-n)=x.fZ-n:=iw;have ap:Vl Z ((k:Int)+1)=(k:Int)+1:=iw;have h1:fQ (x.fN-o):=⟨fh,fh⟩
    have h2:fQ (x.fZ-n):=⟨fh,fh⟩
    clear a4 aa ab;have x0:=zN hG.out x0;have x1:=zN hG.out x1;have x2:=zN hG.out x2;obtain⟨o0,o1,o2,aq,a6⟩:=kL a9;have ai:g<wr.heap.size:=Vn af hG.out.size;have a3:g∉S:=fun hm=>by have h:=(hS.out g hm).1;omega
    have a1:g5∉S:=fun hm=>(hS.out g5 hm).2 rfl;go_upto_region 8 with(fail);go_region_held3 (fun w'=>Vg w' ⟨g,a5+k*3,I⟩=F (C Z x.fN)/\Vg w' ⟨g,a5+k*3+1,I⟩=F (C Z x.fZ)/\Vg w' ⟨g,a5+k*3+2,I⟩=F (X x.fA)/\Vg w' ⟨g5,0,I⟩=F (C Z o)/\Vg w' ⟨g5,1,I⟩=F (C Z n)) ((repeat' apply Vm) <;> ((repeat (first | with_reducible assumption | with_reducible refine zd ?_ _ _ | with_reducible refine zq ?_ _ | with_reducible refine zc ?_ | with_reducible refine ow ?_ _));done)) (first | (go_at_call 164;refine(zq2 _ _).mono ?_;rintro e w2 ⟨rfl,ar,di,rfl⟩) | (refine rj (L:=acc.length+3) rfl (.tmp 17) (.tmp 40) me zI (hH.out.fH gF) (ys:=[x.fN-o,x.fZ-n,ui x.fA]) (Ua (e:=3) h1 h2 (LR x.fA) (by simp[go_sem]) (by simp[go_sem]) (by simp[go_sem])) rfl rfl rfl rfl fh fh ?_;intro B3 c3 W8 S8 a2 ad a7;have x0:=zE x0 gF a2 a3;have x1:=zE x1 gF a2 a3;have x2:=zE x2 gF a2 a3;have o0:=zE o0 gF a2 a1;have o1:=zE o1 gF a2 a1;have a8:=(a2.block g5 (Vn a6 (fy.size gF)) a1).trans (zj a9 gF);obtain⟨p0,p1,p2,pf,pl⟩:=kL a8))
    all_goals go_wp2_with(fail)
    all_goals go_roundw
    case rel=>
     have hs:=vA a8 (C Z x.fN) (C Z x.fZ) (X x.fA)
     exact⟨k+1,x.fN,x.fZ,x.fA,x.fN,acc++[x.fN-o,x.fZ-n,ui x.fA],B3,c3,S8,gm,io,fh,e1.1,e1.2,e2.1,fh,by simp;omega,ac,fk (by rw[<-HT.out,HN.out];simp),fk (hs.2.fH (a2.fH (hG.out.trans gF) (fun b hb=>(hS.out b hb).1)) (by simp only[Vi];rintro b rfl;exact ae)),fk (Has.gu (by simpa using ad) hs.2 (fun b hb=>by
      simp only[Vi];rcases a7 b hb with h | h
      ·exact(hS.out b h).2
      ·exact Yy (Vn (Vn a6 (fy.size gF)) h))),fk (fun b hb=>(a7 b hb).elim (hS.out b) (fun h=>⟨VL (hG.out.trans gF).size h,Yy (Vn (Vn a6 (fy.size gF)) h)⟩)),hs.1⟩
    case measure=>exact iC
   ·obtain rfl:k=xs.length:=fh
    have ag:¬ ((xs.length:Int)<(xs.length:Int)):=fh;have HE:Hid (acc=sH xs 0 0):=fk (by have h:=HT.out;rw[VW] at h;simpa[sH] using h);exact xw
theorem Dd {B:Nat} {xs:D Int} (h:(zv.sl e).R w B [J A n c] xs)(h0:0<xs.length):∃ g off,A=F ⟨g,off,I⟩/\g<B/\∀(i:Nat)(x:Int),xs[i]?=F x->Vg w ⟨g,off+i,I⟩=F (C Z x)/\fQ x:=by
 obtain⟨A',c',h1,_,_,_,h5⟩:=h;injection h1 with h1 _
 injection h1 with hA _ _
 subst hA;obtain⟨g,off,rfl,hg,h6⟩:=h5 h0;refine⟨g,off,rfl,hg,fun i x hx=>?_⟩;obtain⟨ec,hR,hc⟩:=h6 i x hx;obtain⟨rfl,h7,h8⟩:=hR;have:=hc 0 _ rfl;simp only[show zv.size=1 from rfl,Xo,Wk] at this;exact⟨this,h7,h8⟩
def Fi (p:D iF × Bool)(w:V)(e:Z9)(w':V):Prop:=∃ A c S,e=.returned (.tuple #[J A p.1.length c,X p.2])/\Has (mh.sl 205) w' [J A p.1.length c] p.1 S/\(∀ b∈S,w.heap.size<=b)/\fy w w'
theorem OB (h:¬ ((iX s 0).2.2=H/\(iX s 0).2.1=s.size/\(iX s 0).1.length % 4=0)):qD s=([],M):=Vo h
theorem N2 (hp:iX s 0=(l,z,H))(hz:z=s.size)(h4:l.length % 4=0):qD s=if rr (oZ l 0)=s then (oZ l 0,H) else ([],M):=by
 unfold qD;rw[hp];exact Vs ⟨rfl,hz,h4⟩
theorem oX {g:Prop} (f:g:=by
  go_wp2_with(go_at_call 110;refine(zdN s 0 _ hs2 h00).mono ?_;rw[HP.out];rintro e w1 ⟨A1,c1,rfl,hF,os1,d1,rfl⟩)
  go_ret2
  exact HB.out _ gF _ fh (Cn _ _)):g:=f
theorem xR {g:Prop} (f:g:=by
  refine ARM _ _ (fk rfl) (fk rfl) ?_
  rw[Zg]
  intro hh
  simp only[Vt,V4] at hh
  exact hgood ⟨hh.1.1,fh,fh⟩):g:=f
theorem zsw (s:G)(w:V)(hs:s.size<=4194304):VK prog 111 #[Q s] w (Fi (qD s) w):=by
 obtain⟨l,z,ok,hp⟩:∃ l z ok,iX s 0=(l,z,ok):=⟨_,_,_,rfl⟩
 have HP:=fk hp;have hs2:s.size<=1099511627776:=fh;have h00:fQ 0:=⟨fh,fh⟩
 have ae:¬ (ok=H/\z=s.size/\l.length % 4=0)->∀ w',fy w w'->∀ g,w.heap.size<=g->w'.heap[g]?=F (U #[] 205 (0,0))->Fi (qD s) w (.returned (.tuple #[J (F ⟨g,0,I⟩) 0 0,X M])) w':=fun hn w' hg g ao hh=>by
  rw[OB (by rw[hp];exact hn)];exact⟨_,0,[g],rfl,Has.iK mh hh,fun b hb=>by simp only[Vi] at hb;omega,hg⟩
 have ARM:∀(bz b4:Bool),Hid (((z:Int) == (s.size:Int))=bz)->Hid (((l.length:Int) % 4 == 0)=b4)->(ok && bz && b4)=M->VK prog 111 #[Q s] w (Fi (qD s) w):=by
  intro bz b4 Hz H4 a4
  have HB:=fk (ae (by
   rintro⟨r1,r2,r3⟩;have e1:bz=H:=by rw[<-Hz.out];simp;omega
   have e2:b4=H:=by rw[<-H4.out];simp;omega
   rw[r1,e1,e2] at a4
   cases a4))
  clear hp ae;cases ok
  ·go_enter func111,ntmps111
   exact oX
  ·cases bz
   ·have hz:((z:Int) != (s.size:Int))=H:=by rw[bne,Hz.out];rfl
    go_enter func111,ntmps111;exact oX
   ·cases b4
    ·have hz:((z:Int) != (s.size:Int))=M:=by rw[bne,Hz.out];rfl
     have h4:((l.length:Int) % 4 != 0)=H:=by rw[bne,H4.out];rfl
     go_enter func111,ntmps111;exact oX
    ·cases a4
 by_cases hgood:ok=H/\z=s.size/\l.length % 4=0
 case neg=>
  exact xR
 obtain⟨rfl,ar,h4⟩:=hgood;clear ARM ae;have HY:=fk (N2 hp ar h4);have aJ:((z:Int) != (s.size:Int))=M:=by simp;omega
 have aK:((l.length:Int) % 4 != 0)=M:=by simp;omega
 have ap:=vT (s:=s) (a:=0) hp;have al:=fk ap.2.2.2;have aT:l.length<=4194304:=fh;have H4:=fk h4;clear hp ap ar h4;go_enter func111,ntmps111;go_wp2_with(go_at_call 110;refine(zdN s 0 _ hs2 h00).mono ?_;rw[HP.out];rintro e w1 ⟨A1,c1,rfl,hF,os1,d1,rfl⟩);go_loopw [7,8,9] (fun a b q wr=>∃(k:Nat) (last:Int) (a5:D iF) (A5:N VQ) (c5:Nat) (S:D Nat),a=J A5 a5.length c5/\b=C Z last/\q=C Z (k:Int)/\k<=l.length/\-(549755813888*(k:Int))<=last/\last<=549755813888*(k:Int)/\a5.length<=k/\Hid (4*a5.length=k)/\Hid (a5++oZ (l.drop k) last=oZ l 0)/\Hid (fy (fH w os1 d1) wr)/\Hid (Has (mh.sl 205) wr [J A5 a5.length c5] a5 S)/\Hid (∀ b∈S,w.heap.size+os1.size<=b)) (fun _ _ q _=>l.length-(Wj q).toNat)
 case atStart=>exact⟨0,0,[],_,0,[w.heap.size+os1.size],rfl,rfl,rfl,Vu _,fh,fh,Vu _,fk rfl,fk rfl,fk gF,fk (Has.iK mh (Cn _ _)),fk (fun b hb=>by simp only[Vi] at hb;omega)⟩
 case round=>
  obtain⟨k,last,a5,A5,c5,S,rfl,rfl,rfl,hk,aR,aS,aI,HK,HT,hG,hH,hS⟩:=hrel;by_cases hlt:k<l.length
  ·have h4:=H4.out
   have hK:=HK.out;have aF:(k:Int)<(l.length:Int):=fh;obtain⟨g,ak,hA,aE,a4⟩:=Dd hF.read fh;subst hA;obtain⟨a0,aa⟩:∃ a,l[k]?=F a:=⟨_,Vq hlt⟩
   obtain⟨a1,ab⟩:∃ a,l[k+1]?=F a:=⟨_,Vq fh⟩
   obtain⟨a2,ah⟩:∃ a,l[k+2]?=F a:=⟨_,Vq fh⟩
   obtain⟨a3,ac⟩:∃ a,l[k+3]?=F a:=⟨_,Vq fh⟩
   have aL:=al.out a0 (Vx aa);have aM:=al.out a1 (Vx ab);obtain⟨fb,aC⟩:∃ fb:Bool,(a2 == 1)=fb:=⟨_,rfl⟩
   have ag:=NM aa ab ah ac last;rw[show decide (a2=1)=fb from aC] at ag;have HN:=fk ag;clear ag;have x0:=zN hG.out (a4 _ _ aa).1;have x1:=zN hG.out (a4 _ _ ab).1;have x2:=zN hG.out (a4 _ _ ah).1;have x3:=zN hG.out (a4 _ _ ac).1;have b3:=(a4 _ _ ac).2;clear a4 aa ab ah ac;have aU:Vl Z (last+a0)=last+a0:=iw;have aV:Vl Z (last+a0+a1)=last+a0+a1:=iw;have aN:Vl Z ((k:Int)+1)=(k:Int)+1:=iw;have aO:Vl Z ((k:Int)+2)=(k:Int)+2:=iw;have aP:Vl Z ((k:Int)+3)=(k:Int)+3:=iw;have aQ:Vl Z ((k:Int)+4)=(k:Int)+4:=iw;have i1:(k:Int)+1<(l.length:Int):=fh;have i2:(k:Int)+2<(l.length:Int):=fh;have i3:(k:Int)+3<(l.length:Int):=fh;have q1:(0:Int)<=(k:Int)+1:=fh;have q2:(0:Int)<=(k:Int)+2:=fh;have q3:(0:Int)<=(k:Int)+3:=fh;have t1:((k:Int)+1).toNat=k+1:=fh;have t2:((k:Int)+2).toNat=k+2:=fh;have t3:((k:Int)+3).toNat=k+3:=fh;have ao:g<wr.heap.size:=Vn aE hG.out.size;have aq:w.heap.size+os1.size<=wr.heap.size:=by have:=hG.out.size;rw[mJ] at this;exact this
   have aH:=fk h4;have av:=fk (show k+4<=l.length from fh);clear h4 hK;go_upto_region 9 with(fail);go_region_held3 (fun w'=>Vg w' ⟨g,ak+k,I⟩=F (C Z a0)/\Vg w' ⟨g,ak+(k+2),I⟩=F (C Z a2)/\Vg w' ⟨g,ak+(k+3),I⟩=F (C Z a3)) ((repeat' apply Vm) <;> (first | ((repeat (first | assumption | with_reducible refine zd ?_ _ _ | with_reducible refine zq ?_ _ | with_reducible refine zc ?_));done) | (simp[go_sem];done))) (fail);have eb:(wr.alloc (U #[C Z (last+a0),C Z 0,X fb,C Z a3] 205)).drew.heap[wr.heap.size]?=F (U #[C Z (last+a0),C Z 0,X fb,C Z a3] 205 (0,0)):=Vj _ _;have ad:fy wr (wr.alloc (U #[C Z (last+a0),C Z 0,X fb,C Z a3] 205)).drew:=gG;obtain⟨g5,ai⟩:∃ g,wr.heap.size=g:=⟨_,rfl⟩
   rw[ai] at eb aq ao |-;have au:=fk ai;clear ai;generalize (wr.alloc _).drew=Y at eb ad |-;obtain⟨o0,o1,o2,o3,aW⟩:=DM eb;have aD:g5<Y.heap.size:=(blt eb)
   have x1:=zN ad x1;have aj:g5∉S:=fun hm=>by have h:=hH.out.lt g5 hm;have h2:=au.out;omega
   go_upto_region 10 with(fail);go_region;have am:(Y.setCell ⟨g5,1,I⟩ (C Z (last+a0+a1))).drew.heap[g5]?=F (U #[C Z (last+a0),C Z (last+a0+a1),X fb,C Z a3] 205 (0,0)):=ko eb rfl;have a6:fG [g5] Y (Y.setCell ⟨g5,1,I⟩ (C Z (last+a0+a1))).drew:=((fG.refl _ _).setCell (p:=⟨g5,1,I⟩) gm _).trans ((fy.drew (fy.refl _)).only _);generalize (Y.setCell _ _).drew=Y2 at am a6 |-;obtain⟨p0,p1,p2,p3,pf⟩:=DM am;have aw:=(hH.out.fH ad).gu a6 (fun b hb hm=>by simp only[Vi] at hm;subst hm;exact aj hb);have an:fy (fH w os1 d1) Y2:=a6.fH (hG.out.trans ad) (by simp only[Vi];rintro b rfl;rw[mJ];exact aq);have ay:fQ (last+a0):=⟨fh,fh⟩
   have az:fQ (last+a0+a1):=⟨fh,fh⟩
   go_wp2_with(refine zG (L:=a5.length+1) rfl (.tmp 68) (.tmp 70) FI Er (aw.fH gF) (W1:=w) (B:=0) (ec:=[C Z (last+a0),C Z (last+a0+a1),X fb,C Z a3]) (y:=⟨last+a0,last+a0+a1,fb,a3⟩) (Eb (x:=⟨last+a0,last+a0+a1,fb,a3⟩) ay az b3) rfl rfl rfl (by intro j u hu;simpa[go_sem] using hu) rfl fh fh ?_;intro A8 c8 W8 S8 aG ax aA);go_roundw;exact⟨k+4,last+a0+a1,a5++[⟨last+a0,last+a0+a1,fb,a3⟩],A8,c8,S8,gm,rfl,io,av.out,fh,fh,by simp;omega,fk (by have:=HK.out;simp;omega),fk (by rw[<-HT.out,HN.out];simp),fk (aG.fH (an.trans gF) (by rw[mJ];exact hS.out)),fk (by simpa using ax),fk (fun b hb=>(aA b hb).elim (hS.out b) (fun h=>by have h2:=an.size;rw[mJ] at h2;rw[VH] at h;omega))⟩;exact iC
  ·obtain rfl:k=l.length:=fh
   have aF:¬ ((l.length:Int)<(l.length:Int)):=fh;have HE:a5=oZ l 0:=by have h:=HT.out;rw[VW] at h;simpa[oZ] using h
   have a8:a5.length<=268435455:=fh;by_cases he:rr a5=s
   ·have HR:Hid (qD s=(a5,H)):=fk (by rw[HY.out,<-HE,Vs he])
    have af:=fk he;have aB:(s.toList != s.toList)=M:=by rw[bne,mb,Vv rfl];rfl
    clear he HE;go_wp2_with(go_at_call 120;refine(zi4 (xs:=a5) (Ty.up _ hH.out.read gF) a8).mono ?_;rw[af.out];rintro e w9 ⟨rfl,a9⟩);go_ret2;rw[HR.out];exact⟨_,_,S,rfl,hH.out.fH (fy.trans gF a9),fun b hb=>by have:=hS.out b hb;omega,((gF:fy w (fH w os1 d1)).trans hG.out).trans (fy.trans gF a9)⟩
   ·have HR:Hid (qD s=([],M)):=fk (by rw[HY.out,<-HE,Vo he])
    obtain⟨E,hE⟩:∃ E,rr a5=E:=⟨_,rfl⟩
    have af:=fk hE;rw[hE] at he;have aB:(E.toList == s.toList)=M:=by rw[mb,Vp he]
    clear he HE hE;go_wp2_with(go_at_call 120;refine(zi4 (xs:=a5) (Ty.up _ hH.out.read gF) a8).mono ?_;rw[af.out];rintro e w9 ⟨rfl,a9⟩);go_ret2;rw[HR.out];have a7:fy w w9:=((gF:fy w (fH w os1 d1)).trans hG.out).trans (fy.trans gF a9);exact⟨_,0,[w9.heap.size],rfl,Has.iK mh (Vj _ _),fun b hb=>by simp only[Vi] at hb;have:=a7.size;omega,a7.trans gF⟩
def Fu (p:D jk × Bool)(w:V)(e:Z9)(w':V):Prop:=∃ A c S,e=.returned (.tuple #[J A p.1.length c,X p.2])/\Has (nk.sl 216) w' [J A p.1.length c] p.1 S/\(∀ b∈S,w.heap.size<=b)/\fy w w'
theorem Px (h:¬ ((iX s 0).2.2=H/\(iX s 0).2.1=s.size/\(iX s 0).1.length % 3=0)):qK s=([],M):=Vo h
theorem OA (hp:iX s 0=(l,z,H))(hz:z=s.size)(h4:l.length % 3=0):qK s=if rC (pD l 0 0)=s then (pD l 0 0,H) else ([],M):=by
 unfold qK;rw[hp];exact Vs ⟨rfl,hz,h4⟩
theorem zuO (s:G)(w:V)(hs:s.size<=4194304):VK prog 112 #[Q s] w (Fu (qK s) w):=by
 obtain⟨l,z,ok,hp⟩:∃ l z ok,iX s 0=(l,z,ok):=⟨_,_,_,rfl⟩
 have HP:=fk hp;have hs2:s.size<=1099511627776:=fh;have h00:fQ 0:=⟨fh,fh⟩
 have ac:¬ (ok=H/\z=s.size/\l.length % 3=0)->∀ w',fy w w'->∀ g,w.heap.size<=g->w'.heap[g]?=F (U #[] 216 (0,0))->Fu (qK s) w (.returned (.tuple #[J (F ⟨g,0,I⟩) 0 0,X M])) w':=fun hn w' hg g hgw hh=>by
  rw[Px (by rw[hp];exact hn)];exact⟨_,0,[g],rfl,Has.iK nk hh,fun b hb=>by simp only[Vi] at hb;omega,hg⟩
 have ARM:∀(bz b4:Bool),Hid (((z:Int) == (s.size:Int))=bz)->Hid (((l.length:Int) % 3 == 0)=b4)->(ok && bz && b4)=M->VK prog 112 #[Q s] w (Fu (qK s) w):=by
  intro bz b4 Hz H4 a3
  have HB:=fk (ac (by
   rintro⟨r1,r2,r3⟩;have e1:bz=H:=by rw[<-Hz.out];simp;omega
   have e2:b4=H:=by rw[<-H4.out];simp;omega
   rw[r1,e1,e2] at a3
   cases a3))
  clear hp ac;cases ok
  ·go_enter func112,ntmps112
   exact oX
  ·cases bz
   ·have hz:((z:Int) != (s.size:Int))=H:=by rw[bne,Hz.out];rfl
    go_enter func112,ntmps112;exact oX
   ·cases b4
    ·have hz:((z:Int) != (s.size:Int))=M:=by rw[bne,Hz.out];rfl
     have h4:((l.length:Int) % 3 != 0)=H:=by rw[bne,H4.out];rfl
     go_enter func112,ntmps112;exact oX
    ·cases a3
 by_cases hgood:ok=H/\z=s.size/\l.length % 3=0
 case neg=>
  exact xR
 obtain⟨rfl,an,h4⟩:=hgood;clear ARM ac;have HY:=fk (OA hp an h4);have aE:((z:Int) != (s.size:Int))=M:=by simp;omega
 have aF:((l.length:Int) % 3 != 0)=M:=by simp;omega
 have am:=vT (s:=s) (a:=0) hp;have ai:=fk am.2.2.2;have aP:l.length<=4194304:=fh;have H4:=fk h4;clear hp am an h4;go_enter func112,ntmps112;go_wp2_with(go_at_call 110;refine(zdN s 0 _ hs2 h00).mono ?_;rw[HP.out];rintro e w1 ⟨A1,c1,rfl,hF,os1,d1,rfl⟩);go_loopw [7,9] (fun a q wr=>∃(k:Nat) (o n:Int) (bs:Bool) (a4:D jk) (A5:N VQ) (c5:Nat) (S:D Nat),a=J A5 a4.length c5/\q=C Z (k:Int)/\k<=l.length/\-(549755813888*(k:Int))<=o/\o<=549755813888*(k:Int)/\-(549755813888*(k:Int))<=n/\n<=549755813888*(k:Int)/\a4.length<=k/\Hid (3*a4.length=k)/\Hid (a4++pD (l.drop k) o n=pD l 0 0)/\Hid (fy (fH w os1 d1) wr)/\Hid (Has (nk.sl 216) wr [J A5 a4.length c5] a4 S)/\Hid (∀ b∈S,w.heap.size+os1.size<=b/\b≠w.heap.size+os1.size+1)/\wr.heap[w.heap.size+os1.size+1]?=F (U #[C Z o,C Z n,X bs] 216 (0,0))) (fun _ q _=>l.length-(Wj q).toNat)
 case atStart=>
  exact⟨0,0,0,M,[],_,0,[w.heap.size+os1.size],rfl,rfl,Vu _,fh,fh,fh,fh,Vu _,fk rfl,fk rfl,fk gF,fk (Has.iK nk (by have:=Vj (fH w os1 d1) (U #[] 216);rw[mJ] at this;exact zj this gF)),fk (fun b hb=>by simp only[Vi] at hb;omega),by
    have:=Vj ((fH w os1 d1).alloc (U #[] 216)) (U #[C Z 0,C Z 0,X M] 216);rw[VH,mJ] at this
    exact this⟩
 case round=>
  obtain⟨k,o,n,bs,a4,A5,c5,S,rfl,rfl,hk,aL,aM,aN,aO,aD,HK,HT,hG,hH,hS,ak⟩:=hrel;have az:w.heap.size+os1.size<=w.heap.size+os1.size+1:=fh;generalize w.heap.size+os1.size+1=g5 at *
  by_cases hlt:k<l.length
  ·have h4:=H4.out
   have hK:=HK.out;have aB:(k:Int)<(l.length:Int):=fh;obtain⟨g,aS,hA,aA,a3⟩:=Dd hF.read fh;subst hA;rw[mJ] at aA;obtain⟨a0,aa⟩:∃ a,l[k]?=F a:=⟨_,Vq hlt⟩
   obtain⟨a1,ab⟩:∃ a,l[k+1]?=F a:=⟨_,Vq fh⟩
   obtain⟨a2,ag⟩:∃ a,l[k+2]?=F a:=⟨_,Vq fh⟩
   have aG:=ai.out a0 (Vx aa);have aH:=ai.out a1 (Vx ab);obtain⟨fb,ay⟩:∃ fb:Bool,(a2 == 1)=fb:=⟨_,rfl⟩
   have ae:=OI aa ab ag o n;rw[show decide (a2=1)=fb from ay] at ae;have HN:=fk ae;clear ae;have x0:=zN hG.out (a3 _ _ aa).1;have x1:=zN hG.out (a3 _ _ ab).1;have x2:=zN hG.out (a3 _ _ ag).1;clear a3 aa ab ag;have aQ:Vl Z (o+a0)=o+a0:=iw;have aR:Vl Z (n+a1)=n+a1:=iw;have aI:Vl Z ((k:Int)+1)=(k:Int)+1:=iw;have aJ:Vl Z ((k:Int)+2)=(k:Int)+2:=iw;have aK:Vl Z ((k:Int)+3)=(k:Int)+3:=iw;have i1:(k:Int)+1<(l.length:Int):=fh;have i2:(k:Int)+2<(l.length:Int):=fh;have q1:(0:Int)<=(k:Int)+1:=fh;have q2:(0:Int)<=(k:Int)+2:=fh;have t1:((k:Int)+1).toNat=k+1:=fh;have t2:((k:Int)+2).toNat=k+2:=fh;have ao:=fk (show k+3<=l.length from fh);have a8:g5∉S:=fun hm=>(hS.out g5 hm).2 rfl;obtain⟨o0,o1,o2,aT,aU⟩:=kL ak;clear h4 hK;go_upto_region 9 with(fail);go_region;have ah:=vA ak (C Z (o+a0)) (C Z (n+a1)) (X fb);have af:(((wr.setCell ⟨g5,0,I⟩ (C Z (o+a0))).setCell ⟨g5,1,I⟩ (C Z (n+a1))).setCell ⟨g5,2,I⟩ (X fb)).drew.heap[g5]?=F (U #[C Z (o+a0),C Z (n+a1),X fb] 216 (0,0)):=ah.1;have a5:fG [g5] wr (((wr.setCell ⟨g5,0,I⟩ (C Z (o+a0))).setCell ⟨g5,1,I⟩ (C Z (n+a1))).setCell ⟨g5,2,I⟩ (X fb)).drew:=ah.2.trans ((fy.drew (fy.refl _)).only _);clear ah;generalize (((wr.setCell _ _).setCell _ _).setCell _ _).drew=Y2 at af a5 |-;obtain⟨p0,p1,p2,pf,aC⟩:=kL af;have ap:=hH.out.gu a5 (fun b hb hm=>by simp only[Vi] at hm;subst hm;exact a8 hb);have aj:fy (fH w os1 d1) Y2:=a5.fH hG.out (by simp only[Vi];rintro b rfl;rw[mJ];exact az);have ar:fQ (o+a0):=⟨fh,fh⟩
   have au:fQ (n+a1):=⟨fh,fh⟩
   go_wp2_with(refine zG (L:=a4.length+1) rfl (.tmp 61) (.tmp 63) Mi Le (ap.fH gF) (W1:=w) (B:=0) (ec:=[C Z (o+a0),C Z (n+a1),X fb]) (y:=⟨o+a0,n+a1,fb⟩) (Ku (x:=⟨o+a0,n+a1,fb⟩) ar au) rfl rfl rfl (by intro j u hu;simpa[go_sem] using hu) rfl fh fh ?_;intro A8 c8 W8 S8 al aq av;have aw:=(al.block g5 (Vn aC (fy.size gF)) a8).trans (zj af gF));go_roundw;exact⟨k+3,o+a0,n+a1,fb,a4++[⟨o+a0,n+a1,fb⟩],A8,c8,S8,gm,io,ao.out,fh,fh,fh,fh,by simp;omega,fk (by have:=HK.out;simp;omega),fk (by rw[<-HT.out,HN.out];simp),fk (al.fH (aj.trans gF) (by rw[mJ];exact fun b hb=>(hS.out b hb).1)),fk (by simpa using aq),fk (fun b hb=>(av b hb).elim (hS.out b) (fun h=>by have h2:=aj.size;rw[mJ] at h2;rw[VH] at h;omega)),aw⟩;exact iC
  ·obtain rfl:k=l.length:=fh
   have aB:¬ ((l.length:Int)<(l.length:Int)):=fh;have HE:a4=pD l 0 0:=by have h:=HT.out;rw[VW] at h;simpa[pD] using h
   have a7:a4.length<=268435455:=fh;by_cases he:rC a4=s
   ·have HR:Hid (qK s=(a4,H)):=fk (by rw[HY.out,<-HE,Vs he])
    have ad:=fk he;have ax:(s.toList != s.toList)=M:=by rw[bne,mb,Vv rfl];rfl
    clear he HE;go_wp2_with(go_at_call 121;refine(zkt (xs:=a4) (Ty.up _ hH.out.read gF) a7).mono ?_;rw[ad.out];rintro e w9 ⟨rfl,a9⟩);go_ret2;rw[HR.out];exact⟨_,_,S,rfl,hH.out.fH (fy.trans gF a9),fun b hb=>by have:=(hS.out b hb).1;omega,((gF:fy w (fH w os1 d1)).trans hG.out).trans (fy.trans gF a9)⟩
   ·have HR:Hid (qK s=([],M)):=fk (by rw[HY.out,<-HE,Vo he])
    obtain⟨E,hE⟩:∃ E,rC a4=E:=⟨_,rfl⟩
    have ad:=fk hE;rw[hE] at he;have ax:(E.toList == s.toList)=M:=by rw[mb,Vp he]
    clear he HE hE;go_wp2_with(go_at_call 121;refine(zkt (xs:=a4) (Ty.up _ hH.out.read gF) a7).mono ?_;rw[ad.out];rintro e w9 ⟨rfl,a9⟩);go_ret2;rw[HR.out];have a6:fy w w9:=((gF:fy w (fH w os1 d1)).trans hG.out).trans (fy.trans gF a9);exact⟨_,0,[w9.heap.size],rfl,Has.iK nk (Vj _ _),fun b hb=>by simp only[Vi] at hb;have:=a6.size;omega,a6.trans gF⟩
theorem Ub {c:Int} (ha:fQ a)(hb:fQ b)(hc:fQ c)(hd:fQ d)(hB:g+1<=W.heap.size)(c0:Vg W ⟨g,0,I⟩=F (C Z a))(c1:Vg W ⟨g,1,I⟩=F (C Z b))(c2:Vg W ⟨g,2,I⟩=F (C Z c))(c3:Vg W ⟨g,3,I⟩=F (C Z d)):(zv.sl e).R W W.heap.size [J (F ⟨g,0,I⟩) 4 4] [a,b,c,d]:=
 Ty.jz _ (Lh ha hb hc hd c0 c1 c2 c3) (fun _ _=>rfl) hB
theorem TY (ha:fQ a)(hb:fQ b)(hB:g+1<=W.heap.size)(c0:Vg W ⟨g,0,I⟩=F (C Z a))(c1:Vg W ⟨g,1,I⟩=F (C Z b)):(zv.sl e).R W W.heap.size [J (F ⟨g,0,I⟩) 2 2] [a,b]:=
 Ty.jz _ (TZ ha hb c0 c1) (fun _ _=>rfl) hB
theorem RD {c:Int} (hx:(zv.sl 3).R w w.heap.size [J (F ⟨g,0,I⟩) 4 4] [a,b,c,d]):VK prog 119 #[J (F ⟨g,0,I⟩) 4 4] w fun e w'=>e=.returned (Q (kJ [a,b,c,d]))/\fy w w':=zlQ (l:=[a,b,c,d]) hx gm
theorem RC (hx:(zv.sl 3).R w w.heap.size [J (F ⟨g,0,I⟩) 2 2] [a,b]):VK prog 119 #[J (F ⟨g,0,I⟩) 2 2] w fun e w'=>e=.returned (Q (kJ [a,b]))/\fy w w':=zlQ (l:=[a,b]) hx gm
theorem Ts {l:D UInt8} {k:Nat} {b:UInt8} (h:l[k]?=F b):((l.take (k+1)).map fun b=>(b.toNat:Int)).sum=((l.take k).map fun b=>(b.toNat:Int)).sum+(b.toNat:Int):=by
 rw[Wr,h];simp
theorem zzV (s:G)(w:V)(hs:s.size<=1099511627776):VK prog 123 #[Q s] w fun e w'=>e=.returned (C Z (wo s))/\fy w w':=by
 go_enter func123,ntmps123;go_wp2_with(fail);go_loopw [3,4] (fun a b wr=>∃(k:Nat) (n:Int),a=C Z n/\b=C Z (k:Int)/\k<=s.size/\0<=n/\n<=255*(k:Int)/\Hid (n=((s.data.toList.take k).map fun b=>(b.toNat:Int)).sum)/\Hid (fy w wr)) (fun _ b _=>s.size-(Wj b).toNat)
 case atStart=>exact⟨0,0,rfl,rfl,Vu _,fh,fh,fk rfl,fk gF⟩
 case round=>
  obtain⟨k,n,rfl,rfl,hk,a2,a3,HN,hG⟩:=hrel;by_cases hlt:k<s.size
  ·have a1:(k:Int)<(s.size:Int):=fh
   have a5:Vl Z ((k:Int)+1)=(k:Int)+1:=iw;obtain⟨b,hb⟩:∃ b,s.data.toList[k]?=F b:=⟨_,Vq (by rw[yO];exact hlt)⟩
   have a0:=b.toNat_lt
   have a4:s[k]=b:=by
    have:=Aq s k hlt;rw[this] at hb;injection hb
   have HS:=fk (Ts hb);clear hb;have a6:Vl Z (n+(b.toNat:Int))=n+(b.toNat:Int):=iw;go_wp2_with(fail);go_roundw;exact⟨k+1,n+(b.toNat:Int),rfl,io,fh,fh,fh,fk (by rw[HN.out,HS.out]),fk (hG.out.trans gF)⟩;exact iC
  ·obtain rfl:k=s.size:=fh
   have HE:=fk (show n=wo s from by
    have h:=HN.out;rw[WE (by rw[yO];omega)] at h
    exact h)
   go_wp2_with(fail);go_ret;exact⟨nB HE.out,hG.out.trans gF⟩
theorem zmn {xs:D gL} (hx:(mc.sl 214).R w w.heap.size [J A xs.length c] xs)(hl:xs.length<=268435455) :
  VK prog 122 #[J A xs.length c] w fun e w'=>e=.returned (Q (qO xs))/\fy w w':=by
 cases hok:yA xs
 ·have HS:=fk (show qO xs=⟨#[]⟩ from by unfold qO;rw[Vo (by rw[hok];simp)];rfl)
  have HO:=fk hok;clear hok;go_enter func122,ntmps122;go_wp2_with(go_at_call 116;refine(zdq (Ty.up _ hx gG)).mono ?_;rw[HO.out];rintro e w1 ⟨rfl,ae,d1,rfl⟩);go_ret;exact⟨nu HS.out.symm,gG⟩
 ·have HS:=fk (show qO xs=tH xs (jq xs.length) from by unfold qO;rw[Vs hok])
  have a9:=fk (FB xs 0 hok);have HO:=fk hok;clear hok;have ac:=pA (xs.length:Int);obtain⟨E0,a3⟩:∃ E0,jq (xs.length:Int)=E0:=⟨_,rfl⟩
  have a7:=fk a3;rw[a3] at ac;clear a3;go_enter func122,ntmps122
  go_wp2_with(first
   | (go_at_call 116;refine(zdq (Ty.up _ hx gG)).mono ?_;rw[HO.out];rintro e w1 ⟨rfl,ae,d1,rfl⟩)
   | (go_at_call 117;refine(zgs _ _).mono ?_;rw[a7.out];rintro e w2 ⟨rfl,au,d2,rfl⟩))
  go_loopw [3,4] (fun a z wr=>∃(k:Nat) (a0:G),a=Q a0/\z=C Z (k:Int)/\k<=xs.length/\a0.size<=6+44*k/\Hid (tH (xs.drop k) a0=tH xs E0)/\Hid (fy w wr)) (fun _ z _=>xs.length-(Wj z).toNat)
  case atStart=>exact⟨0,E0,rfl,rfl,Vu _,fh,fk rfl,fk gF⟩
  case round=>
   obtain⟨k,a0,rfl,rfl,hk,al,HT,hG⟩:=hrel;by_cases hlt:k<xs.length
   ·have ad:(k:Int)<(xs.length:Int):=fh
    obtain⟨g,ap,x,hA,aj,a6,x0,x1,x2,x3,x4,b0,b1,b2,b3,b4⟩:=Di hx hlt;subst hA;have ak:=Fa (a9.out x (Vx a6));have am:Vl Z ((k:Int)+1)=(k:Int)+1:=iw;have HN:=fk (RU a6 a0);clear a6;have x0:=zN hG.out x0;have x1:=zN hG.out x1;have x2:=zN hG.out x2;have x3:=zN hG.out x3;have x4:=zN hG.out x4;obtain⟨PI,a1⟩:∃ PI,kJ [x.fA,x.iD,x.gJ,x.fZ]=PI:=⟨_,rfl⟩
    obtain⟨PT,a2⟩:∃ PT,se x.fJ=PT:=⟨_,rfl⟩
    have an:PI.size<=30:=by have:=BH [x.fA,x.iD,x.gJ,x.fZ];rw[a1] at this;simpa using this
    have ao:PT.size<=14:=by have:=vd x.fJ;rw[a2] at this;omega
    have HB:Hid (AT x=PI++PT):=fk (by rw[<-a1,<-a2];rfl);have aa:=fk a1;have ab:=fk a2;clear a1 a2;have ag:¬ (9223372036854775807<a0.size+PI.size):=fh;have ah:¬ (9223372036854775807<(a0++PI).size+PT.size):=by rw[nY];omega
    have ai:¬ (9223372036854775807<a0.size+PI.size+PT.size):=fh;have a5:x.fJ.size<=1099511627775:=fh;go_upto_region 8 with(fail);have eb:(wr.alloc (U #[C Z x.fA,C Z x.iD,C Z x.gJ,C Z x.fZ,Q x.fJ] 214)).heap[wr.heap.size]?=F (U #[C Z x.fA,C Z x.iD,C Z x.gJ,C Z x.fZ,Q x.fJ] 214 (0,0)):=Vj _ _;have a8:fy wr (wr.alloc (U #[C Z x.fA,C Z x.iD,C Z x.gJ,C Z x.fZ,Q x.fJ] 214)):=gG;obtain⟨g5,a4⟩:∃ g,wr.heap.size=g:=⟨_,rfl⟩
    rw[a4] at eb |-;have af:=fk a4;clear a4;generalize (wr.alloc _)=Y at eb a8 |-;obtain⟨o0,o1,o2,o3,o4,aq,ar⟩:=jO eb
    go_region_held3 (fun w'=>Vg w' ⟨g5,0,I⟩=F (C Z x.fA)/\Vg w' ⟨g5,1,I⟩=F (C Z x.iD)/\Vg w' ⟨g5,2,I⟩=F (C Z x.gJ)/\Vg w' ⟨g5,3,I⟩=F (C Z x.fZ)/\Vg w' ⟨g5,4,I⟩=F (Q x.fJ)) ((repeat' apply Vm) <;> ((repeat (first | with_reducible assumption | with_reducible refine zd ?_ _ _ | with_reducible refine zq ?_ _ | with_reducible refine zc ?_ | with_reducible refine ow ?_ _));done)) (first
     | (go_at_call 119;refine(RD (Ub b0 b1 b2 b3 gm (by simp[go_sem]) (by simp[go_sem]) (by simp[go_sem]) (by simp[go_sem]))).mono ?_;rw[aa.out];rintro e w3 ⟨rfl,av,d3,rfl⟩)
     | (go_at_call 118;refine(zj3 x.fJ _ a5).mono ?_;rw[ab.out];rintro e w4 ⟨rfl,aw,d4,rfl⟩))
    all_goals go_wp2_with(fail)
    all_goals go_roundw
    all_goals try (case measure=>simp[Wj];omega)
    all_goals exact⟨k+1,a0++PI++PT,rfl,io,fh,by rw[nY,nY];omega,fk (by rw[<-HT.out,HN.out,HB.out,WF]),fk ((hG.out.trans a8).trans gF)⟩
   ·obtain rfl:k=xs.length:=fh
    have ad:¬ ((xs.length:Int)<(xs.length:Int)):=fh;have HE:Hid (qO xs=a0):=fk (by have h:=HT.out;rw[VW] at h;rw[HS.out,a7.out,<-h];rfl);go_wp2_with(fail);go_ret;exact⟨nu HE.out.symm,hG.out.trans gF⟩
def F2 (p:D gL × Bool)(w:V)(e:Z9)(w':V):Prop:=∃ A c S,e=.returned (.tuple #[J A p.1.length c,X p.2])/\Has (mc.sl 214) w' [J A p.1.length c] p.1 S/\(∀ b∈S,w.heap.size<=b)/\fy w w'
theorem J4 {α:Type} {T:Ty α} {off:Nat} {xs:D α} {S:D Nat} (h:Has (T.sl e) W [J (F ⟨g,off,I⟩) n c] xs S):g∈S:=by
 obtain⟨⟨A',c',a0,S',hv,_,_,rfl⟩,_⟩:=h;injection hv with hv _
 injection hv with hA _ _
 subst hA;simp[lT]
theorem Sx (h:iN s 0=(n,z,M)):ph s=([],M):=by
 unfold ph;rw[h];rfl
theorem Ox (h:iN s 0=(n,z,H))(h2:nG s n z []=I):ph s=([],M):=by
 unfold ph;rw[h];simp only[Xe];rw[h2]
theorem Oy {b:Nat} {l:D gL} (h:iN s 0=(n,z,H))(h2:nG s n z []=F (l,b)):ph s=if qO l=s then (l,H) else ([],M):=by
 unfold ph;rw[h];simp only[Xe];rw[h2]
theorem tW {g:Prop} (f:g:=by
  go_wp2_with(first
   | (go_at_call 110;refine(zdN s (pos:Int) _ hs2 hpI).mono ?_;rw[HP1.out];rintro e w2 ⟨A2,c2,rfl,hF2,hG2⟩)
   | (go_at_call 109;refine(zgB s ((pos:Int)+(m:Int)) _ hs2 hpmI).mono ?_;rw[HP2.out];rintro e w3 ⟨rfl,hG3⟩))
  go_ret2
  exact HB.out _ (((hG.out.trans (fy.trans gF hG2)).trans (fy.trans gF hG3)).trans gF) _ (by have:=hG.out.size;have:=(fy.trans (gF:fy wr _) hG2).size;have:=hG3.size;simp at *;omega) (Vj _ _)):g:=f
theorem zwx (s:G)(w:V)(hs:s.size<=4194304):VK prog 113 #[Q s] w (F2 (ph s) w):=by
 have hs2:s.size<=1099511627776:=fh;have ap:fQ 0:=⟨fh,fh⟩
 have NO:ph s=([],M)->∀ w',fy w w'->∀ g,w.heap.size<=g->w'.heap[g]?=F (U #[] 214 (0,0))->F2 (ph s) w (.returned (.tuple #[J (F ⟨g,0,I⟩) 0 0,X M])) w':=fun hn w' hg g hgw hh=>by
  rw[hn];exact⟨_,0,[g],rfl,Has.iK mc hh,fun b hb=>by simp only[Vi] at hb;omega,hg⟩
 obtain⟨n,z,ok,hp⟩:∃ n z ok,iN s 0=(n,z,ok):=⟨_,_,_,rfl⟩
 have HP:=fk hp;cases ok
 ·obtain⟨rfl,rfl⟩:=te hp
  have HB:=fk (NO (Sx hp));clear hp NO;go_enter func113,ntmps113;go_wp2_with(go_at_call 108;refine(zd1 s 0 _ hs2 ap).mono ?_;rw[HP.out];rintro e w1 ⟨rfl,an,d1,rfl⟩);go_loopw [8] (fun a wr=>a=C Z 0/\Hid (fy (fH (w.alloc (U #[] 214)) an d1) wr)) (fun _ _=>0)
  case atStart=>exact⟨rfl,fk gF⟩
  case round=>
   obtain⟨rfl,hG⟩:=hrel;go_wp2_with(fail);go_ret2;exact HB.out _ (((gF:fy w (fH (w.alloc (U #[] 214)) an d1)).trans hG.out).trans gF) _ (by have:=hG.out.size;simp at this;omega) (by first | exact Vj _ _ | exact Cn _ _)
 ·have aq:=pa hp
  have aF:z<=s.size:=fh;have aJ:n<=1099511627775:=aq.2.2.2.2;have ao:Hid (nG s n z []=I->∀ w',fy w w'->∀ g,w.heap.size<=g->w'.heap[g]?=F (U #[] 214 (0,0))->F2 (ph s) w (.returned (.tuple #[J (F ⟨g,0,I⟩) 0 0,X M])) w'):=fk (fun h=>NO (Ox hp h));have ad:=fk (fun(l:D gL) (b:Nat) (h:nG s n z []=F (l,b))=>Oy hp h);clear hp NO aq;go_enter func113,ntmps113;go_wp2_with(go_at_call 108;refine(zd1 s 0 _ hs2 ap).mono ?_;rw[HP.out];rintro e w1 ⟨rfl,an,d1,rfl⟩);go_loopw [4,6,8] (fun a p q wr=>∃(k pos:Nat) (a4:D gL) (A5:N VQ) (c5:Nat) (S:D Nat),a=J A5 a4.length c5/\p=C Z (pos:Int)/\q=C Z (k:Int)/\k<=n/\pos<=s.size/\a4.length<=pos/\Hid (nG s (n-k) pos a4=nG s n z [])/\Hid (fy w wr)/\Hid (Has (mc.sl 214) wr [J A5 a4.length c5] a4 S)/\Hid (∀ b∈S,w.heap.size<=b)) (fun _ _ q _=>n-(Wj q).toNat)
  case atStart=>exact⟨0,z,[],_,0,[w.heap.size],rfl,rfl,rfl,Vu _,aF,Vu _,fk rfl,fk gF,fk (Has.iK mc (zj (Vj w (U #[] 214)) gF)),fk (fun b hb=>by simp only[Vi] at hb;omega)⟩
  case round=>
   obtain⟨k,pos,a4,A5,c5,S,rfl,rfl,rfl,hk,aB,aG,HT,hG,hH,hS⟩:=hrel;by_cases hlt:k<n
   ·have aA:(k:Int)<(n:Int):=fh
    obtain⟨r,hr⟩:∃ r,n-k=r+1:=⟨n-k-1,fh⟩
    have hT:=HT.out;rw[hr] at hT;obtain⟨l,m,af,a8⟩:∃ l m af,iX s (pos:Int)=(l,m,af):=⟨_,_,_,rfl⟩
    have HP1:=fk a8
    have aI:pos+m<=s.size:=by
     cases af
     ·have:=(Dy a8).2;omega
     ·exact(vT a8).2.1
    have hpI:fQ (pos:Int):=⟨fh,fh⟩
    have aK:Vl Z ((pos:Int)+(m:Int))=(pos:Int)+(m:Int):=iw;have hpmI:fQ ((pos:Int)+(m:Int)):=⟨fh,fh⟩
    obtain⟨t,q,ac,ab⟩:∃ t q ac,lk s (pos+m:Nat)=(t,q,ac):=⟨_,_,_,rfl⟩
    have HP2:Hid (lk s ((pos:Int)+(m:Int))=(t,q,ac)):=fk (by rw[<-ab];congr 1)
    have aC:pos+m+q<=s.size/\t.size<=s.size:=by
     cases ac
     ·obtain⟨e1,e2⟩:=LH ab;subst e1;exact⟨fh,Vu _⟩
     ·have:=vU ab;omega
    have aN:Vl Z ((k:Int)+1)=(k:Int)+1:=iw;have aL:Vl Z ((pos:Int)+(m:Int)+(q:Int))=(pos:Int)+(m:Int)+(q:Int):=iw;by_cases hgood:af=H/\ac=H/\l.length=4
    case neg=>
     have aa:nG s (r+1) pos a4=I:=by
      cases af
      ·exact JB a8
      ·cases ac
       ·exact JC a8 ab
       ·exact JD a8 (fun h=>hgood ⟨rfl,rfl,h⟩)
     have HB:=fk (ao.out (by rw[<-hT];exact aa))
     have ai:af=H->ac=H->((l.length:Int) != 4)=H:=fun h1 h2=>by
      simp only[bne_iff_ne];intro h;exact hgood ⟨h1,h2,fh⟩
     clear aa hT a8 ab hgood ad ao hr;cases af
     ·clear ai
      exact tW
     ·cases ac
      ·clear ai
       exact tW
      ·have aH:=ai rfl rfl
       clear ai;exact tW
    obtain⟨rfl,rfl,h4⟩:=hgood;obtain⟨a0,a1,a2,a3,rfl⟩:=four h4;have ar:Hid (nG s (n-(k+1)) (pos+m+q) (a4++[⟨a0,a1,a2,a3,t⟩])=nG s n z []):=fk (by rw[show n-(k+1)=r from fh,<-hT,KC a8 ab]);have aM:=(vU ab).1;have ai:((([a0,a1,a2,a3]:D Int).length:Int) != 4)=M:=rfl;clear a8 ab hr hT
    go_wp2_with(first
     | (go_at_call 110;refine(zdN s (pos:Int) _ hs2 hpI).mono ?_;rw[HP1.out];rintro e w2 ⟨A2,c2,rfl,hF2,hG2⟩)
     | (go_at_call 109;refine(zgB s ((pos:Int)+(m:Int)) _ hs2 hpmI).mono ?_;rw[HP2.out];rintro e w3 ⟨rfl,hG3⟩))
    have ae:fy wr w3:=(fy.trans gF hG2).trans (fy.trans gF hG3);obtain⟨g2,a9,au,am,a5⟩:=Dd hF2.read gm;subst au;have x0:=zN hG3 (a5 0 a0 rfl).1;have x1:=zN hG3 (a5 1 a1 rfl).1;have x2:=zN hG3 (a5 2 a2 rfl).1;have x3:=zN hG3 (a5 3 a3 rfl).1;rw[Wk] at x0;have b0:=(a5 0 a0 rfl).2;have b1:=(a5 1 a1 rfl).2;have b2:=(a5 2 a2 rfl).2;have b3:=(a5 3 a3 rfl).2;have aD:t.size<=9223372036854775807:=fh;have az:g2<w3.heap.size:=Vn am hG3.size;have av:=hH.out.fH ae;have aE:∀ b∈S,b<wr.heap.size:=hH.out.lt
    have a7:g2∉S:=fun hm=>by
     obtain⟨S2,s1,s2⟩:=hF2.has;have h5:=s2 g2 (J4 s1);have h6:=aE g2 hm;have h7:wr.heap.size<=g2:=VL (fy.size gF) h5;omega
    clear a5;go_region_held3 (fun w'=>Vg w' ⟨g2,a9,I⟩=F (C Z a0)/\Vg w' ⟨g2,a9+1,I⟩=F (C Z a1)/\Vg w' ⟨g2,a9+2,I⟩=F (C Z a2)/\Vg w' ⟨g2,a9+3,I⟩=F (C Z a3)) ((repeat' apply Vm) <;> ((repeat (first | with_reducible assumption | with_reducible refine zd ?_ _ _ | with_reducible refine zq ?_ _ | with_reducible refine zc ?_ | with_reducible refine ow ?_ _));done)) (first | (refine sv (L:=a4.length+1) rfl (.tmp 58) (.tmp 73) GI Gq (av.fH gF) (W1:=w) (B:=0) (ec:=[C Z a0,C Z a1,C Z a2,C Z a3,Q t]) (y:=⟨a0,a1,a2,a3,t⟩) (Im (x:=⟨a0,a1,a2,a3,t⟩) b0 b1 b2 b3 aD) rfl rfl rfl (by intro j u hu;simpa[go_sem] using hu) rfl fh fh ?_;intro A8 c8 W8 S8 aj aw ax;have x0:=zE x0 gF aj a7;have x1:=zE x1 gF aj a7;have x2:=zE x2 gF aj a7;have x3:=zE x3 gF aj a7))
    all_goals go_wp2_with(fail)
    all_goals go_roundw
    exact⟨k+1,pos+m+q,a4++[⟨a0,a1,a2,a3,t⟩],A8,c8,S8,gm,io,io,fh,aC.1,by simp;omega,ar,fk (aj.fH ((hG.out.trans ae).trans gF) hS.out),fk (by simpa using aw),fk (fun b hb=>(ax b hb).elim (hS.out b) (fun h=>VL ((hG.out.trans ae).trans gF).size h))⟩;exact iC
   ·obtain rfl:k=n:=fh
    have aA:¬ ((k:Int)<(k:Int)):=fh;have a6:nG s k z []=F (a4,pos):=by rw[<-HT.out,Ws];rfl
    have ah:a4.length<=268435455:=fh;by_cases he:qO a4=s
    ·have HR:Hid (ph s=(a4,H)):=fk (by rw[ad.out a4 pos a6,Vs he])
     have al:=fk he;have ay:(s.toList != s.toList)=M:=by rw[bne,mb,Vv rfl];rfl
     clear he a6;go_wp2_with(go_at_call 122;refine(zmn (xs:=a4) (Ty.up _ hH.out.read gF) ah).mono ?_;rw[al.out];rintro e w9 ⟨rfl,ak⟩);go_ret2;rw[HR.out];exact⟨_,_,S,rfl,hH.out.fH (fy.trans gF ak),hS.out,hG.out.trans (fy.trans gF ak)⟩
    ·have HR:Hid (ph s=([],M)):=fk (by rw[ad.out a4 pos a6,Vo he])
     obtain⟨E,hE⟩:∃ E,qO a4=E:=⟨_,rfl⟩
     have al:=fk hE;rw[hE] at he;have ay:(E.toList == s.toList)=M:=by rw[mb,Vp he]
     clear he hE a6;go_wp2_with(go_at_call 122;refine(zmn (xs:=a4) (Ty.up _ hH.out.read gF) ah).mono ?_;rw[al.out];rintro e w9 ⟨rfl,ak⟩);go_ret2;rw[HR.out];have ag:fy w w9:=hG.out.trans (fy.trans gF ak);exact⟨_,0,[w9.heap.size],rfl,Has.iK mc (Vj _ _),fun b hb=>by simp only[Vi] at hb;have:=ag.size;omega,ag.trans gF⟩
theorem DN {o0 o1 o2 o3 o4:Value} (h:W.heap[g]?=F (U #[o0,o1,o2,o3,o4] e (0,0))) :
  Vg W ⟨g,0,I⟩=F o0/\Vg W ⟨g,1,I⟩=F o1/\Vg W ⟨g,2,I⟩=F o2/\Vg W ⟨g,3,I⟩=F o3/\Vg W ⟨g,4,I⟩=F o4/\(∀ j,VE W ⟨g,j,I⟩=M)/\g<W.heap.size:=jO h
structure sS (d:iB):Prop where
 jR:nH d.fq<=1073741824
 sZ:d.gY.length<=67108863
 rows:d.gz.length<=67108863
 inl:d.gk.length<=67108863
theorem JU {d:iB} (h:¬ (gE d.Id 0 1099511627775=H/\sM 0 d.gY=H/\sQ (-1) d.gz=H/\yA d.gk=H/\d.fq.all uD=H)):oM d=⟨#[]⟩:=by
 unfold oM;rw[Vo h];rfl
theorem zqD {d:iB} {A0 A1 A2 A3:N VQ} {c0 c1 c2 c3:Nat} (h0:(kr.sl 137).R w w.heap.size [J A0 d.fq.length c0] d.fq)(h1:(mh.sl 205).R w w.heap.size [J A1 d.gY.length c1] d.gY)
  (h2:(nk.sl 216).R w w.heap.size [J A2 d.gz.length c2] d.gz) (h3:(mc.sl 214).R w w.heap.size [J A3 d.gk.length c3] d.gk) (hi:fQ d.Id) (hb:sS d) :
  VK prog 74 #[.agg #[C Z d.Id,J A0 d.fq.length c0,J A1 d.gY.length c1,J A2 d.gz.length c2,J A3 d.gk.length c3]] w fun e w'=>e=.returned (Q (oM d))/\fy w w':=by
 obtain⟨bB,bC,bD,bE⟩:=hb;have bL:=Q7 d.fq;have a9:=Vj w (U #[C Z d.Id,J A0 d.fq.length c0,J A1 d.gY.length c1,J A2 d.gz.length c2,J A3 d.gk.length c3] 108);have a0:fy w (w.alloc (U #[C Z d.Id,J A0 d.fq.length c0,J A1 d.gY.length c1,J A2 d.gz.length c2,J A3 d.gk.length c3] 108)):=gG;obtain⟨gb,ae⟩:∃ g,w.heap.size=g:=⟨_,rfl⟩
 obtain⟨bi,ak⟩:∃ b,gE d.Id 0 1099511627775=b:=⟨_,rfl⟩
 obtain⟨b1,a2⟩:∃ b,sM 0 d.gY=b:=⟨_,rfl⟩
 obtain⟨b2,a3⟩:∃ b,sQ (-1) d.gz=b:=⟨_,rfl⟩
 obtain⟨b3,a4⟩:∃ b,yA d.gk=b:=⟨_,rfl⟩
 have ai:=fk ak;have af:=fk a2;have ag:=fk a3;have ah:=fk a4;by_cases hall:bi=H/\b1=H/\b2=H/\b3=H
 case neg=>
  have HS:=fk (show oM d=⟨#[]⟩ from JU (by rintro⟨e1,e2,e3,e4,_⟩;exact hall ⟨by rw[<-ak,e1],by rw[<-a2,e2],by rw[<-a3,e3],by rw[<-a4,e4]⟩));clear ak a2 a3 a4;go_enter func74,ntmps74;go_upto_region 1 with(fail);rw[ae] at a9;have aT:=fk ae;clear ae;generalize (w.alloc _)=Y at a9 a0 |-;obtain⟨o0,o1,o2,o3,o4,aM,aN⟩:=DN a9;clear o1;cases bi
  ·go_wp2_with(first
    | (go_at_call 43;refine(iU _ _ _ _).mono ?_;rw[ai.out];rintro e v1 ⟨rfl,rfl⟩)
    | (go_at_call 114;refine(zeV (Ty.up _ h1 (a0.trans gF))).mono ?_;rw[af.out];rintro e v2 ⟨rfl,ab,d2,rfl⟩)
    | (go_at_call 115;refine(zfV (Ty.up _ h2 (a0.trans gF))).mono ?_;rw[ag.out];rintro e v3 ⟨rfl,ac,d3,rfl⟩)
    | (go_at_call 116;refine(zdq (Ty.up _ h3 (a0.trans gF))).mono ?_;rw[ah.out];rintro e v4 ⟨rfl,ad,d4,rfl⟩))
   go_ret
   exact⟨nu HS.out.symm,a0.trans gF⟩
  ·cases b1
   ·go_wp2_with(first
     | (go_at_call 43;refine(iU _ _ _ _).mono ?_;rw[ai.out];rintro e v1 ⟨rfl,rfl⟩)
     | (go_at_call 114;refine(zeV (Ty.up _ h1 (a0.trans gF))).mono ?_;rw[af.out];rintro e v2 ⟨rfl,ab,d2,rfl⟩)
     | (go_at_call 115;refine(zfV (Ty.up _ h2 (a0.trans gF))).mono ?_;rw[ag.out];rintro e v3 ⟨rfl,ac,d3,rfl⟩)
     | (go_at_call 116;refine(zdq (Ty.up _ h3 (a0.trans gF))).mono ?_;rw[ah.out];rintro e v4 ⟨rfl,ad,d4,rfl⟩))
    go_ret
    exact⟨nu HS.out.symm,a0.trans gF⟩
   ·cases b2
    ·go_wp2_with(first
      | (go_at_call 43;refine(iU _ _ _ _).mono ?_;rw[ai.out];rintro e v1 ⟨rfl,rfl⟩)
      | (go_at_call 114;refine(zeV (Ty.up _ h1 (a0.trans gF))).mono ?_;rw[af.out];rintro e v2 ⟨rfl,ab,d2,rfl⟩)
      | (go_at_call 115;refine(zfV (Ty.up _ h2 (a0.trans gF))).mono ?_;rw[ag.out];rintro e v3 ⟨rfl,ac,d3,rfl⟩)
      | (go_at_call 116;refine(zdq (Ty.up _ h3 (a0.trans gF))).mono ?_;rw[ah.out];rintro e v4 ⟨rfl,ad,d4,rfl⟩))
     go_ret
     exact⟨nu HS.out.symm,a0.trans gF⟩
    ·cases b3
     ·go_wp2_with(first
       | (go_at_call 43;refine(iU _ _ _ _).mono ?_;rw[ai.out];rintro e v1 ⟨rfl,rfl⟩)
       | (go_at_call 114;refine(zeV (Ty.up _ h1 (a0.trans gF))).mono ?_;rw[af.out];rintro e v2 ⟨rfl,ab,d2,rfl⟩)
       | (go_at_call 115;refine(zfV (Ty.up _ h2 (a0.trans gF))).mono ?_;rw[ag.out];rintro e v3 ⟨rfl,ac,d3,rfl⟩)
       | (go_at_call 116;refine(zdq (Ty.up _ h3 (a0.trans gF))).mono ?_;rw[ah.out];rintro e v4 ⟨rfl,ad,d4,rfl⟩))
      go_ret
      exact⟨nu HS.out.symm,a0.trans gF⟩
     ·exact absurd ⟨rfl,rfl,rfl,rfl⟩ hall
 obtain⟨rfl,rfl,rfl,rfl⟩:=hall;have aV:=fk (fun(x:fR) (hx:x∈d.fq) (hn:uD x=M)=>(show oM d=⟨#[]⟩ from JU (by rintro⟨_,_,_,_,e5⟩;have:=Xm.1 e5 x hx;rw[hn] at this;cases this)));have aA:=fk (fun(h:d.fq.all uD=H)=>(show oM d=vj d++jq (wo (vj d)) from by unfold oM;rw[Vs ⟨ak,a2,a3,a4,h⟩]));clear ak a2 a3 a4;obtain⟨V0,aH⟩:∃ Va,jq d.Id=Va:=⟨_,rfl⟩
 obtain⟨V1,aI⟩:∃ Va,jq (d.fq.length:Int)=Va:=⟨_,rfl⟩
 have bP:V0.size<=6:=by have:=pA d.Id;rwa [aH] at this
 have bQ:V1.size<=6:=by have:=pA (d.fq.length:Int);rwa [aI] at this
 have aO:=fk aH;have aP:=fk aI;clear aH aI;have bF:¬ (9223372036854775807<V0.size+V1.size):=fh;go_enter func74,ntmps74;go_upto_region 1 with(fail);rw[ae] at a9;have aT:=fk ae;clear ae;generalize (w.alloc _)=Y at a9 a0 |-;obtain⟨o0,o1,o2,o3,o4,aM,aN⟩:=DN a9
 go_wp2_with(first
  | (go_at_call 43;refine(iU _ _ _ _).mono ?_;rw[ai.out];rintro e v1 ⟨rfl,rfl⟩)
  | (go_at_call 114;refine(zeV (Ty.up _ h1 (a0.trans gF))).mono ?_;rw[af.out];rintro e v2 ⟨rfl,ab,d2,rfl⟩)
  | (go_at_call 115;refine(zfV (Ty.up _ h2 (a0.trans gF))).mono ?_;rw[ag.out];rintro e v3 ⟨rfl,ac,d3,rfl⟩)
  | (go_at_call 116;refine(zdq (Ty.up _ h3 (a0.trans gF))).mono ?_;rw[ah.out];rintro e v4 ⟨rfl,ad,d4,rfl⟩))
 go_upto_region 3 with(fail);have aQ:fy w (fH (fH (fH Y ab d2) ac d3) ad d4):=a0.trans gF;have aB:=zj a9 (show fy Y (fH (fH (fH Y ab d2) ac d3) ad d4) from gF);generalize (fH (fH (fH Y ab d2) ac d3) ad d4)=Y1 at aB aQ |-;clear o0 o1 o2 o3 o4 aM aN;obtain⟨o0,o1,o2,o3,o4,aM,aN⟩:=DN aB;obtain⟨E0,aD⟩:∃ E,V0++V1=E:=⟨_,rfl⟩
 have bR:E0.size<=12:=by rw[<-aD,nY];omega
 go_region_held3 (fun w'=>Vg w' ⟨gb,0,I⟩=F (C Z d.Id)/\Vg w' ⟨gb,1,I⟩=F (J A0 d.fq.length c0)) ((repeat' apply Vm) <;> ((repeat (first | with_reducible assumption | with_reducible refine zd ?_ _ _ | with_reducible refine zq ?_ _ | with_reducible refine zc ?_ | with_reducible refine ow ?_ _));done)) (first
  | (go_at_call 117;(with_reducible refine(zgs d.Id _).mono ?_);rw[aO.out];rintro e v5 ⟨rfl,bT,d5,rfl⟩)
  | (go_at_call 117;(with_reducible refine(zgs (d.fq.length:Int) _).mono ?_);rw[aP.out];rintro e v6 ⟨rfl,bU,d6,rfl⟩))
 all_goals go_wp2_with(fail)
 all_goals have aS:=fk aD
 all_goals clear aD
 all_goals go_loopw [3,4] (fun a z wr=>∃(k:Nat) (a1:G),a=Q a1/\z=C Z (k:Int)/\k<=d.fq.length/\a1.size<=1073741900/\Hid (uC (d.fq.drop k) a1=uC d.fq E0)/\Hid ((d.fq.take k).all uD=H)/\Hid (fy Y1 wr)) (fun _ z _=>d.fq.length-(Wj z).toNat)
 all_goals try (case atStart=>exact⟨0,E0,rfl,rfl,Vu _,fh,fk rfl,fk rfl,fk gF⟩)
 case round=>
  obtain⟨k,a1,rfl,rfl,hk,bM,HT,HA,hG⟩:=hrel;have ba:=zj aB hG.out;obtain⟨r0,r1,r2,r3,r4,bX,bY⟩:=DN ba;have a6:fy w wr:=aQ.trans hG.out;by_cases hlt:k<d.fq.length
  ·have be:(k:Int)<(d.fq.length:Int):=fh
   obtain⟨g,bS,x,hA,bJ,an,x0,x1,x2,b0,b1,b2⟩:=sC h0 hlt;have a7:=Vx an;have bO:Vl Z ((k:Int)+1)=(k:Int)+1:=iw;have x0:=zN a6 x0;have x1:=zN a6 x1;have x2:=zN a6 x2;obtain⟨s1,al⟩:∃ b,gE x.fA 0 1000000=b:=⟨_,rfl⟩
   obtain⟨s2,am⟩:∃ b,gE x.iG 0 1000000=b:=⟨_,rfl⟩
   have ay:=fk al;have az:=fk am;subst hA;go_upto_region 8 with(fail);have aC:=Vj wr (U #[Q x.fJ,C Z x.fA,C Z x.iG] 137);have ax:fy wr (wr.alloc (U #[Q x.fJ,C Z x.fA,C Z x.iG] 137)):=gG;obtain⟨g5,aJ⟩:∃ g,wr.heap.size=g:=⟨_,rfl⟩
   rw[aJ] at aC |-;have bp:=fk aJ;clear aJ;generalize (wr.alloc _)=U4 at aC ax |-;obtain⟨p0,p1,p2,pf,bW⟩:=kL aC;by_cases hok:s1=H/\s2=H
   case neg=>
    have HB:=fk (aV.out x a7 (by
     unfold uD;rw[al,am];cases s1
     ·rfl
     ·cases s2
      ·rfl
      ·exact absurd ⟨rfl,rfl⟩ hok))
    clear al am an a7;cases s1
    ·go_wp2_with(first
      | (go_at_call 43;(with_reducible refine(iU x.fA _ _ _).mono ?_);rw[ay.out];rintro e v7 ⟨rfl,rfl⟩)
      | (go_at_call 43;(with_reducible refine(iU x.iG _ _ _).mono ?_);rw[az.out];rintro e v8 ⟨rfl,rfl⟩))
     go_ret
     exact⟨nu HB.out.symm,(a6.trans ax).trans gF⟩
    ·cases s2
     ·go_wp2_with(first
       | (go_at_call 43;(with_reducible refine(iU x.fA _ _ _).mono ?_);rw[ay.out];rintro e v7 ⟨rfl,rfl⟩)
       | (go_at_call 43;(with_reducible refine(iU x.iG _ _ _).mono ?_);rw[az.out];rintro e v8 ⟨rfl,rfl⟩))
      go_ret
      exact⟨nu HB.out.symm,(a6.trans ax).trans gF⟩
     ·exact absurd ⟨rfl,rfl⟩ hok
   obtain⟨rfl,rfl⟩:=hok;have aU:=fk (show uD x=H from by unfold uD;rw[al,am];rfl);have bK:=Q8 a7;have aK:x.fJ.size<=1099511627775:=fh;obtain⟨PT,aG⟩:∃ PT,se x.fJ=PT:=⟨_,rfl⟩
   obtain⟨PI,aF⟩:∃ PI,kJ [x.fA,x.iG]=PI:=⟨_,rfl⟩
   have HN:=fk (Tt an a1)
   have b8:=fk (show (d.fq.take (k+1)).all uD=H from by
    rw[Wr,an,XU,HA.out]
    simp[aU.out])
   have aL:yS x=PT++PI:=by rw[<-aG,<-aF];rfl
   have aa:(a1++(PT++PI)).size<=1073741900:=by
    have q1:=(CL (d.fq.drop (k+1)) (a1++yS x)).1;rw[<-HN.out,HT.out,aL] at q1;have q2:=(CL d.fq E0).2;omega
   have aR:a1.size+(PT.size+PI.size)<=1073741900:=by rw[nY,nY] at aa;exact aa
   have HB:=fk aL;have b4:=fk aG;have aZ:=fk aF;clear aG aF aL aa al am an a7;have bb:¬ (9223372036854775807<a1.size+PT.size):=fh;have bc:¬ (9223372036854775807<(a1++PT).size+PI.size):=by rw[nY];omega
   have bd:¬ (9223372036854775807<a1.size+PT.size+PI.size):=fh
   go_wp2_with(first
    | (go_at_call 43;(with_reducible refine(iU x.fA _ _ _).mono ?_);rw[ay.out];rintro e v7 ⟨rfl,rfl⟩)
    | (go_at_call 43;(with_reducible refine(iU x.iG _ _ _).mono ?_);rw[az.out];rintro e v8 ⟨rfl,rfl⟩))
   go_upto_region 10 with(fail)
   go_region_held3 (fun w'=>Vg w' ⟨g5,0,I⟩=F (Q x.fJ)/\Vg w' ⟨g5,1,I⟩=F (C Z x.fA)/\Vg w' ⟨g5,2,I⟩=F (C Z x.iG)) ((repeat' apply Vm) <;> ((repeat (first | with_reducible assumption | with_reducible refine zd ?_ _ _ | with_reducible refine zq ?_ _ | with_reducible refine zc ?_ | with_reducible refine ow ?_ _));done)) (first
    | (go_at_call 119;refine(RC (TY b1 b2 gm (by simp[go_sem]) (by simp[go_sem]))).mono ?_;rw[aZ.out];rintro e v9 ⟨rfl,bV,d9,rfl⟩)
    | (go_at_call 118;refine(zj3 x.fJ _ aK).mono ?_;rw[b4.out];rintro e bZ ⟨rfl,bf,bq,rfl⟩))
   all_goals go_wp2_with(fail)
   all_goals go_roundw
   all_goals try (case measure=>simp[Wj];omega)
   all_goals exact⟨k+1,a1++PT++PI,rfl,io,fh,by rw[nY,nY];omega,fk (by rw[<-HT.out,HN.out,HB.out,WF]),b8,fk ((hG.out.trans ax).trans gF)⟩
  ·obtain rfl:k=d.fq.length:=fh
   have be:¬ ((d.fq.length:Int)<(d.fq.length:Int)):=fh;have aj:a1=uC d.fq E0:=by have h:=HT.out;rw[VW] at h;exact h
   have a8:d.fq.all uD=H:=by have h:=HA.out;rw[WG] at h;exact h
   obtain⟨T1,ar⟩:∃ T,rr d.gY=T:=⟨_,rfl⟩
   obtain⟨T2,au⟩:∃ T,rC d.gz=T:=⟨_,rfl⟩
   obtain⟨T3,av⟩:∃ T,qO d.gk=T:=⟨_,rfl⟩
   have z1:=Gv d.gY;have z2:=GK d.gz;have z3:=GZ d.gk;rw[ar] at z1;rw[au] at z2;rw[av] at z3;obtain⟨P1,ao⟩:∃ T,se T1=T:=⟨_,rfl⟩
   obtain⟨P2,ap⟩:∃ T,se T2=T:=⟨_,rfl⟩
   obtain⟨P3,aq⟩:∃ T,se T3=T:=⟨_,rfl⟩
   have y1:=vd T1;have y2:=vd T2;have y3:=vd T3;rw[ao] at y1;rw[ap] at y2;rw[aq] at y3;have t1:T1.size<=1099511627775:=fh;have t2:T2.size<=1099511627775:=fh;have t3:T3.size<=1099511627775:=fh
   have a5:vj d=a1++P1++P2++P3:=by
    unfold vj;rw[ar,au,av,ao,ap,aq,aO.out,aP.out,aS.out,<-aj];simp only[WF]
   obtain⟨U6,hF⟩:∃ U6,a1++P1++P2++P3=U6:=⟨_,rfl⟩
   rw[hF] at a5;have bA:U6.size<=12884901888:=by rw[<-hF];simp only[nY];omega
   obtain⟨VS,aw⟩:∃ Va,jq (wo U6)=Va:=⟨_,rfl⟩
   have bN:VS.size<=6:=by have:=pA (wo U6);rwa [aw] at this
   have HR:Hid (oM d=U6++VS):=fk (by rw[aA.out a8,a5,aw]);have b5:=fk ar;have b6:=fk au;have b7:=fk av;have aW:=fk ao;have aX:=fk ap;have aY:=fk aq;have b9:=fk aw;have bb:¬ (9223372036854775807<a1.size+P1.size):=fh;have bc:¬ (9223372036854775807<(a1++P1).size+P2.size):=by rw[nY];omega
   have bd:¬ (9223372036854775807<(a1++P1++P2).size+P3.size):=by rw[nY,nY];omega
   have bG:¬ (9223372036854775807<a1.size+P1.size+P2.size):=fh;have bH:¬ (9223372036854775807<a1.size+P1.size+P2.size+P3.size):=fh;have bI:¬ (9223372036854775807<U6.size+VS.size):=fh;have aE:U6.size<=1099511627776:=fh;have l1:d.gY.length<=268435455:=fh;have l2:d.gz.length<=268435455:=fh;have l3:d.gk.length<=268435455:=fh;clear ar au av ao ap aq aw a5 aj a8;go_upto_region 11 with(fail)
   go_region_held3 (fun w'=>Vg w' ⟨gb,2,I⟩=F (J A1 d.gY.length c1)/\Vg w' ⟨gb,3,I⟩=F (J A2 d.gz.length c2)/\Vg w' ⟨gb,4,I⟩=F (J A3 d.gk.length c3)) ((repeat' apply Vm) <;> ((repeat (first | with_reducible assumption | with_reducible refine zd ?_ _ _ | with_reducible refine zq ?_ _ | with_reducible refine zc ?_ | with_reducible refine ow ?_ _));done)) (first
    | (go_at_call 120;(with_reducible refine(zi4 (xs:=d.gY) (Ty.up _ h1 (a6.trans gF)) l1).mono ?_);rw[b5.out];rintro e c4 ⟨rfl,bg,br,rfl⟩)
    | (go_at_call 121;(with_reducible refine(zkt (xs:=d.gz) (Ty.up _ h2 (a6.trans gF)) l2).mono ?_);rw[b6.out];rintro e c5 ⟨rfl,bh,bs,rfl⟩)
    | (go_at_call 122;(with_reducible refine(zmn (xs:=d.gk) (Ty.up _ h3 (a6.trans gF)) l3).mono ?_);rw[b7.out];rintro e c6 ⟨rfl,bj,bt,rfl⟩)
    | (go_at_call 118;(with_reducible refine(zj3 T1 _ t1).mono ?_);rw[aW.out];rintro e c7 ⟨rfl,bk,bu,rfl⟩)
    | (go_at_call 118;(with_reducible refine(zj3 T2 _ t2).mono ?_);rw[aX.out];rintro e c8 ⟨rfl,bl,bv,rfl⟩)
    | (go_at_call 118;(with_reducible refine(zj3 T3 _ t3).mono ?_);rw[aY.out];rintro e ca ⟨rfl,bm,bw,rfl⟩))
   all_goals go_wp2_with(first
    | (go_at_call 123;refine(zzV U6 _ aE).mono ?_;rintro e cc ⟨rfl,bn,bx,rfl⟩)
    | (go_at_call 117;refine(zgs (wo U6) _).mono ?_;rw[b9.out];rintro e cd ⟨rfl,bo,bz,rfl⟩))
   all_goals go_ret
   all_goals exact⟨nu HR.out.symm,a6.trans gF⟩
theorem yE {a b:V} {os:Array Obj} {d d':Nat} (h:gV n m a b)(hs:b.heap.size=a.heap.size):gV n m (Go.Proofs.YthgbglbaemelhaaGreat.fH a os d) (Go.Proofs.YthgbglbaemelhaaGreat.fH b os d'):=by
 intro k h1 h2;simp only[Go.Proofs.YthgbglbaemelhaaGreat.fH];by_cases hk:k<a.heap.size
 ·rw[XE fh,XE fh]
  exact h k h1 h2
 ·rw[XW fh,XW fh,hs]
theorem Ag {a b:V} (h:gV n m a b)(hs:b.heap.size=a.heap.size):gV n m (a.alloc o) (b.alloc o):=by
 rw[Bp,Bp];exact yE h hs
theorem zb {a b:V} {o':Obj} (h:gV n m a b)(hs:b.heap.size=a.heap.size)(hm:m<=a.heap.size):gV n m (a.alloc o) (b.alloc o'):=by
 intro k h1 h2
 have e1:(a.alloc o).heap[k]?=a.heap[k]?:=by
  have:=(show fy a (a.alloc o) from(fy.refl a).alloc o).block (k:=k) fh;exact this
 have e2:(b.alloc o').heap[k]?=b.heap[k]?:=by
  have:=(show fy b (b.alloc o') from(fy.refl b).alloc o').block (k:=k) fh;exact this
 rw[e1,e2];exact h k h1 h2
theorem AH {a b:V} (hs:b.heap.size=a.heap.size)(hn:a.heap.size<=n):gV n m a b:=by
 intro k h1 _;rw[Xq fh,Xq fh]
theorem An {a b:V} (h:gV n m a b):gV n m a.drew b:=h
section
variable {α:Type} {T:Ty α} {e:Wl} {P:Program} {t:Wl} {WZ:Nat} {ops:Array Oper} {rest:D Oper} {o:Oper} {a:Act} {Vc:Exit->Act->V->Prop} {K:Act->V->Prop}
theorem MI (hE:iZ P t e T WZ)(hf:lL T){ty:Wl}{W:V}{g:Nat}(hg0:W.heap[g]?=F (U #[] e (0,0)))
  {B:Nat} {e':Wl} {A2:N VQ} {m c2:Nat} {ys:D α} (hy:(T.sl e').R W B [J A2 m c2] ys) (hb:m*WZ<=140737488355328) (h63:m<=9223372036854775807) :
  ∃ A' c'' os d,(WS #[t,t] ty #[J (F ⟨g,0,I⟩) 0 0,J A2 m c2]).run P W=.ok (J A' m c'') (fH W os d)/\ns (T.sl e) g (g+1) W.heap.size (fH W os d) [J A' m c''] ys:=by
 obtain⟨ac,ae,h1,h2,h3,h4,h5⟩:=id hy;simp only[XB,WP,XR] at h1;obtain⟨rfl,rfl,rfl⟩:=h1;obtain⟨i,z,hi,hz,a9,aa,ab⟩:=hE.qy;have ag:g<W.heap.size:=(blt hg0)
 rcases XL ys.length with h0 | h0
 ·have a8:ys = []:=Xu h0
  subst a8
  have hs:Src P i.size t (J A2 0 c2) 0 [] W:=by
   cases A2 with
   | none=>exact Src.ofNil W hE.ht c2
   | some ad=>exact Src.ofSlice W hE.ht ad 0 c2 [] gm (fun j u hu=>by simp at hu) (fun u hu=>by cases hu)
  have hr:=run_append_room_src (P:=P) W t t ty e i hE.ht hi g 0 0 0 (J A2 0 c2) 0 [] hs fh (fun j hj=>by simp at hj) (fun j hj=>by simp at hj);refine⟨F ⟨g,0,I⟩,0,#[],W.drawn,?_,[g],?_,gm,fun b hb=>by simp at hb;omega⟩
  ·rw[<-Fx];exact hr
  ·rw[<-Fx]
   exact qG (xs:=([]:D α)) hg0 (show gz T W (#[]:Array Value).toList [] [] from⟨rfl,rfl⟩) gm
 ·obtain⟨g2,off,rfl,af,h6⟩:=h5 h0
  obtain⟨cs,a1,a0,a2⟩:=Cy (T:=T) hf (w:=W) (w':=W) (B:=B) (g:=g2) (off:=off) ys 0 (fun i x hx=>by
   obtain⟨ec,h7,h8⟩:=h6 i x hx
   exact⟨ec,h7,fun j u hu=>by rw[VJ];exact h8 j u hu⟩)
  have a4:Src P i.size t (J (F ⟨g2,off,I⟩) ys.length c2) ys.length cs W:=Src.ofSlice W hE.ht _ _ _ cs (by rw[a0,a9]) (fun j u hu=>by
   have:=a2 j u hu;rw[XO,show off+j=off+0*T.size+j from fh]
   exact this) (gz.one a1)
  have hr:=run_append_grow_src (P:=P) W t t ty e i z hE.ht hi hz (F ⟨g,0,I⟩) 0 0 [] (run_firstCells_some W.drew i.size 0 _ 0 0 [] gm (fun j u hu=>by simp at hu)) (J (F ⟨g2,off,I⟩) ys.length c2) ys.length cs a4 fh fh (growslice_fits fh (by rw[aa,VJ];exact hb));simp only[VJ,Wo] at hr;have a6:=grownCap_ge W ys.length 0 e;have a7:=Zb W ys.length 0 e;generalize grownCap W ys.length 0 e=c' at hr a6 a7;by_cases hm:ys.length<=maxLen
  case neg=>
   exfalso;unfold maxLen at hm;omega
  have a3:=a7 hm;generalize hcur:(cs.toArray++Builtin.zeroCells z.cells (c'-ys.length))=cur at hr
  have a5:W.drew.alloc (U cur e)=fH W #[U cur e] (W.drawn+1):=by
   unfold fH WJ World.drew;simp
  refine⟨F ⟨W.heap.size,0,I⟩,c',_,_,by rw[hr,a5],[W.heap.size],?_,gm,fun b hb=>by simp at hb;omega⟩;rw[<-a5];refine⟨_,c',cs,[],rfl,⟨by rw[a0],.inr ⟨W.heap.size,c',cur,rfl,Vu _,Vj W.drew _,a6,a3,?_,?_⟩⟩,gz.gu a1 (fun k hk=>by cases hk),rfl⟩
  ·rw[<-hcur,Ze,size_zeroCells,ab]
   simp only[List.size_toArray,a0];rw[<-Yi];congr 1;omega
  ·rw[<-hcur,XJ,List.take_append_of_le_length (by simp[a0])]
   rw[WE (by simp[a0])]
theorem Gk {E:Prop} (hgd:o.guard=I)(s x:Operand)(hE:iZ P t e T WZ)(hf:lL T){Vb W:V}{g:Nat}(hg:fy (Vb.alloc (U #[] e)) W)(hgX:g=Vb.heap.size)
  {B:Nat} {e':Wl} {A2:N VQ} {m c2:Nat} {ys:D α} (hy:(T.sl e').R W B [J A2 m c2] ys)
  (ho:o.op=.call { callee:=.builtin .append,args:=#[s,x],argTypes:=#[t,t] }) (hs:a.eval s=J (F ⟨g,0,I⟩) 0 0) (hx:a.eval x=J A2 m c2)
  (hb:m*WZ<=140737488355328) (h63:m<=9223372036854775807)
  (hK:∀ A' c'' os d,ns (T.sl e) Vb.heap.size (Vb.heap.size+1) W.heap.size (fH W os d) [J A' m c''] ys->K (a.put o.dst (J A' m c'')) (fH W os d)):if V6 o (Xb ops a.tmps)=H then Oper.wp P o a W K Vc else E:=by
 have hw:V6 o (Xb ops a.tmps)=H:=by simp[V6,hgd]
 rw[Vs hw];subst hgX;have a1:W.heap[Vb.heap.size]?=F (U #[] e (0,0)):=by rw[hg.block gm];exact Vj Vb _
 have a2:=hg.size;rw[VH] at a2;obtain⟨A',c'',os,d,a0,hF⟩:=MI (P:=P) (ty:=o.type) hE hf a1 hy hb h63;exact vG s x ho hs hx a0 (hK A' c'' os d hF)
end
theorem Uy (h:iN s a=(t,z,ok)):z<=6:=by
 cases ok
 ·have:=te h;omega
 ·have:=pa h;omega
theorem TC {a:Nat}:∀{c z:Nat}{acc l:D Int}{n:Nat},a+z<=s.size->acc.length<=z->nW s a c z acc=F (l,n)->l.length<=n/\a+n<=s.size:=by
 intro c;induction c with
 | zero=>intro z acc l n h1 h2 h;simp[nW] at h;obtain⟨rfl,rfl⟩:=h;omega
 | succ c ih=>
  intro z acc l n h1 h2 h;obtain⟨m,t,ok,hm⟩:∃ m t ok,iN s ((a:Int)+z)=(m,t,ok):=⟨_,_,_,rfl⟩
  cases ok
  ·rw[CO hm] at h;cases h
  ·have:=pa hm
   rw[BP hm] at h;exact ih fh (by simp;omega) h
theorem LG {a:Nat} (h:iX s a=(l,n,ok)):l.length<=n/\n<=s.size:=by
 unfold iX at h;split at h
 ·rename_i hok
  obtain⟨t,z,a0,hd⟩:∃ t z ok,iN s (a:Int)=(t,z,ok):=⟨_,_,_,rfl⟩
  rw[hd] at h hok;simp only at h hok;subst hok;have hb:=pa hd;cases hg:nW s a t z [] with
  | none=>rw[hg] at h;simp[vy] at h;obtain⟨rfl,rfl,_⟩:=h;simp
  | some p=>
   obtain⟨l',n'⟩:=p;rw[hg] at h;simp[vy] at h;obtain⟨rfl,rfl,_⟩:=h;have:=TC fh gm hg;omega
 ·simp at h;obtain⟨rfl,rfl,_⟩:=h;simp
theorem SR {a:Nat} (h:iX s a=(l,n,ok)):l.length<=s.size:=by have:=LG h;omega
theorem UK {a:Nat} (h:iX s a=(l,n,ok)):n<=6+6*s.size:=by have:=LG h;omega
theorem LK (h:iN s a=(t,z,ok)):fQ (t:Int):=by
 cases ok
 ·have:=te h;exact⟨fh,fh⟩
 ·have:=pa h;exact⟨fh,fh⟩
theorem QT {W0:V} (h0:fQ x.ij)(h1:fQ x.gg.Pc)(h2:fQ x.gg.Sp)(h3:fQ x.gg.Fp)(hF:kN (zv.sl 3) W0 m W [J A x.gg.gK.length c] x.gg.gK)(hw:w.heap.size<=W0.heap.size) :
  gH qj w W [C Z x.ij,C Z x.gg.Pc,C Z x.gg.Sp,C Z x.gg.Fp,J A x.gg.gK.length c] x:=
 Cp h0 (CD h1 h2 h3 hF hw).mw (Vz _)
def F1 (p:iy × Bool)(w:V)(e:Z9)(w':V):Prop:=∃ A0 c0,e=.returned (.tuple #[.agg #[C Z p.1.ij,C Z p.1.gg.Pc,C Z p.1.gg.Sp,C Z p.1.gg.Fp,J A0 p.1.gg.gK.length c0],X p.2])/\gH qj w w' [C Z p.1.ij,C Z p.1.gg.Pc,C Z p.1.gg.Sp,C Z p.1.gg.Fp,J A0 p.1.gg.gK.length c0] p.1/\fy w w'
theorem C6 {p:iy × Bool} {b:Bool} (hx:p=(x,b)){w w':V}{A:N VQ}{c:Nat}(hF:gH qj w w' [C Z x.ij,C Z x.gg.Pc,C Z x.gg.Sp,C Z x.gg.Fp,J A x.gg.gK.length c] x)(hG:fy w w') :
  F1 p w (.returned (.tuple #[.agg #[C Z x.ij,C Z x.gg.Pc,C Z x.gg.Sp,C Z x.gg.Fp,J A x.gg.gK.length c],X b])) w':=by
 subst hx;exact⟨A,c,rfl,hF,hG⟩
theorem FM (W0 W:V):gH qj W0 W [C Z 0,C Z 0,C Z 0,C Z 0,J I 0 0] sI:=by
 have hv:gH tJ W0 W [C Z 0,C Z 0,C Z 0,J I 0 0] ⟨0,0,0,[]⟩:=CD (x:=⟨0,0,0,[]⟩) ⟨gm,gm⟩ ⟨gm,gm⟩ ⟨gm,gm⟩ (TS W0 W) (Vz _);exact Cp (x:=sI) ⟨by simp[sI],by simp[sI]⟩ hv.mw (Vz _)
end Go.Proofs.YthgbglbaemelhaaGreat
