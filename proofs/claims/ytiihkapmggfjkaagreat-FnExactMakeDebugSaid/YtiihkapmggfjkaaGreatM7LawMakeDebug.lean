/-
  PART.
-/
import Derived.Test.YtiihkapmggfjkaaGreatM1LawMakeDebug
import Derived.Test.YtiihkapmggfjkaaGreatM3LawMakeDebug
import Derived.Test.YtiihkapmggfjkaaGreatM4LawMakeDebug
set_option linter.unusedVariables false
set_option linter.unusedSimpArgs false
set_option maxRecDepth 100000
set_option maxHeartbeats 8000000
namespace Go.Proofs.YtiihkapmggfjkaaGreat
open Value renaming slice->J,int->F,bool->X,string->G
open IntKind renaming i64->I
open Option renaming none->V,some->H,map_some->Nk
open Bool renaming false->U,true->M
open Go renaming World->N,Value->LA,Calls->LR,Addr->Mh
open World renaming cell?->Lg
open _root_.Int renaming toNat_natCast->Lw,natCast_mul->Ni
open RowKit renaming intOf->Ml
open UInt8 renaming ofNat->NJ
open Tryz
open Go.RowKit
variable {A:K Mh}{B c n:Nat}{k:Int}{v:LA}{w:N}{x y:gk}{xs:Q gk}
def qw:Ty UInt8 where
 size:=1
 R:=fun _ _ cs x=>cs = [F .u8 (x.toNat:Int)]
 O:=fun _ cs x S=>cs = [F .u8 (x.toNat:Int)]/\S = []
 kz:=by rintro _ _ _ _ rfl;rfl
 iZ:=by rintro _ _ _ _ ⟨rfl,_⟩;rfl
 kO:=by rintro _ _ _ _ ⟨rfl,_⟩ u hu;simp at hu;subst hu;rfl
 ld:=by rintro _ _ _ _ rfl u hu;simp at hu;subst hu;rfl
 iR:=by rintro _ _ _ _ _ _ h _ _;exact h
 hJ:=by rintro _ _ _ _ _ h _;exact h
 jB:=by rintro _ _ _ _ ⟨_,rfl⟩ k hk;simp at hk
 OR:=by rintro _ _ _ _ _ ⟨h1,_⟩ _;exact h1
theorem Bn:kK qw:=fun h _=>⟨h,rfl⟩
theorem IH {x:Int} (h0:0<=x)(h1:x<256):qw.R w B [F .u8 x] (NJ x.toNat):=by
 obtain⟨n,rfl⟩:=M1 h0;show [F .u8 (n:Int)] = [F .u8 (((NJ (n:Int).toNat).toNat:Nat):Int)]
 have:(NJ (n:Int).toNat).toNat=n:=by
  rw[Lw];exact UInt8.toNat_ofNat_of_lt' (by show n<256;omega)
 rw[this]
theorem pJ {g:Prop} (f:g:=by
  rw[hi] at h
  simp only[Nk,Mg,Prod.mk.injEq] at h
  exact⟨i,_,rfl,h.1,h.2.1,h.2.2,rfl⟩):g:=f
theorem IN:iI prog 42 5 qw 1:=by
 refine⟨underlying42,?_,by decide⟩;have h:(prog.info? 5).map (fun i=>(i.zero,i.size,i.bytes))=H (H (F .u8 0),1,1):=by kernel_rfl
 cases hi:prog.info? 5 with
 | none=>rw[hi] at h;simp at h
 | some i=>
  exact pJ
theorem E4 {e':TypeId} {xs:Q UInt8} (h:(qw.sl e').R w B [J A n c] xs) :
  (convert 42 9 (J A n c)).run prog w=.ok (G ⟨xs.toArray⟩) w:=by
 obtain⟨A',c',h1,h2,h3,h4,h5⟩:=id h;simp only[NV,Nb,OJ] at h1;obtain⟨rfl,rfl,rfl⟩:=h1;rcases N3 xs.length with h0 | h0
 ·cases xs with
  | cons x xs=>simp at h0
  | nil=>
   cases A with
   | none=>exact run_convert_bytes_nil w _ _ underlying42 underlying5 _ _ _ underlying9
   | some a=>
    rw[run_convert_bytes_string w _ _ _ _ _ _ underlying42 underlying5 underlying9];rw[run_bytesToString w a _ _ [] (by simp[loadCells,loadCellsFrom,Sem.run_pure])];rfl
 ·obtain⟨g,a0,rfl,hg,h6⟩:=h5 h0
  have hr:=run_convert_bytes_arg (P:=prog) w 42 5 underlying42 underlying5 g a0 xs.length c (xs.map fun b=>(b.toNat:Int)) (by simp) (by
   intro i hi;obtain⟨ec,h7,h8⟩:=h6 i _ (Lo hi);obtain rfl:ec=_:=h7;have:=h8 0 _ rfl;rw[show a0+i*qw.size+0=a0+i from by show a0+i*1+0=_;omega] at this;rw[this]
   simp[List.getD,Lo hi]) _ underlying9
  rw[hr];have:((fun n:Int=>NJ n.toNat) ∘ fun b:UInt8=>(b.toNat:Int))=id:=by funext b;simp
  simp[strOfNums,this]
theorem F1 (h0:x.Name.size<=9223372036854775807)(h1:fV x.Start)(h2:fV x.il):jU.O w [G x.Name,F I x.Start,F I x.il] x ([]):=by
 have h:jU.O w [G x.Name,F I x.Start,F I x.il] x ([]++([]++[])):=⟨[G x.Name],[F I x.Start,F I x.il],[],([]++[]),rfl,rfl,⟨rfl,h0,rfl⟩,⟨[F I x.Start],[F I x.il],[],[],rfl,rfl,⟨rfl,h1.1,h1.2,rfl⟩,⟨rfl,h2.1,h2.2,rfl⟩⟩⟩
 simpa using h
theorem Hl:x=y↔x.Name=y.Name/\x.Start=y.Start/\x.il=y.il:=by
 cases x;cases y;simp
theorem zjD:LR prog 118 #[.agg #[G x.Name,F I x.Start,F I x.il],.agg #[G y.Name,F I y.Start,F I y.il]] w fun e w'=>e=.returned (X (decide (x=y)))/\fF w w':=by
 go_enter func118,ntmps118;go_wp2
 all_goals
  go_ret
  refine⟨zy ?_,gG⟩
  simp_all [Hl,tg]
theorem zh {e:TypeId} (h:(jU.sl e).R w B [J A n c] xs){k:Nat}(hk:k<xs.length) :
  ∃ g off x ,A=H ⟨g,off,V⟩/\g<B/\xs[k]?=H x/\Lg w ⟨g,off+k*3,V⟩=H (G x.Name)/\Lg w ⟨g,off+k*3+1,V⟩=H (F I x.Start)/\Lg w ⟨g,off+k*3+2,V⟩=H (F I x.il)/\x.Name.size<=9223372036854775807/\fV x.Start/\fV x.il:=by
 obtain⟨g,off,x,ec,h1,hB,h2,h3,h4⟩:=om h hk;obtain⟨rfl,hf⟩:=I1 h3;exact⟨g,off,x,h1,hB,h2,h4 0 _ rfl,h4 1 _ rfl,h4 2 _ rfl,hf⟩
def pV (_:gk)(k:Int):gk:=⟨lr k,k+1,k+1+1⟩
def uU (xs:Q gk)(k:Int):Q gk:=nq pV (fun _=>3) xs k
def pq (xs:Q gk):Nat:=xs.length*3
theorem pO (xs:Q gk)(k:Int):(uU xs k).length=xs.length:=ns _ _
theorem E9:(prog.info? 110).map (fun i=>(i.zero,i.size,i.bytes))=H (H (.agg #[G ⟨#[]⟩,F I 0,F I 0]),3,32):=by kernel_rfl
theorem Cu:kK jU:=uP _ (nO qp (nO zP zP))
theorem DI:iI prog 26 110 jU 32:=by
 obtain⟨i0,hi,a0,a1,a2⟩:=Nf E9;exact⟨underlying26,⟨i0,_,hi,a0,a1,a2,rfl⟩,by decide⟩
theorem zmZ {ys:Q gk} {u:LA} (hx:(jU.sl 110).R w w.heap.size [v] xs)(hy:(jU.sl 110).R w w.heap.size [u] ys) :
  LR prog 50 #[v,u] w fun e w'=>e=.returned (X (decide (xs=ys)))/\fF w w':=by
 obtain⟨A,c,rfl,h1,h2⟩:=jV hx;obtain⟨A',c',rfl,k1,k2⟩:=jV hy;by_cases hl:xs.length=ys.length
 ·have a7:((xs.length:Int) != (ys.length:Int))=U:=by simp[hl]
  have HL:=fE hl;clear hl;go_enter func50,ntmps50;go_wp2_with(fail);go_loopw [5] (fun i wr=>∃ k:Nat,k<=xs.length/\i=F I k/\Hid (fF w wr)/\Hid (xs.take k=ys.take k)) (fun i _=>xs.length-(Ml i).toNat)
  case atStart=>exact⟨0,Lv _,rfl,fF.refl _,fE (by simp)⟩
  case round=>
   obtain⟨k,hk,rfl,hG,HT⟩:=hrel;obtain⟨os,d,rfl⟩:=hG.out;clear hG;by_cases hlt:k<xs.length
   ·have a2:k<ys.length:=by rw[<-HL.out];exact hlt
    obtain⟨g,a1,x,rfl,af,a3,ag,ah,ai,a9,aa,ab⟩:=zh hx hlt;obtain⟨g',a0,y,rfl,a6,a4,aj,ak,al,ac,ad,ae⟩:=zh hy a2;have HX:=fE a3;have HY:=fE a4;clear a3 a4 hx hy;by_cases hxy:x=y
    ·subst hxy
     go_wp2_with(fail)
     go_region_held3 (fun w'=>Lg w' ⟨g,a1+k*3,V⟩=H (G x.Name)/\Lg w' ⟨g,a1+k*3+1,V⟩=H (F I x.Start)/\Lg w' ⟨g,a1+k*3+2,V⟩=H (F I x.il)/\Lg w' ⟨g',a0+k*3,V⟩=H (G x.Name)/\Lg w' ⟨g',a0+k*3+1,V⟩=H (F I x.Start)/\Lg w' ⟨g',a0+k*3+2,V⟩=H (F I x.il)) ((repeat' apply Ls) <;> (first | ((repeat (first | assumption | with_reducible refine zC ?_ _ _ | with_reducible refine zo ?_ _ | with_reducible refine zb ?_));done) | (simp[go_sem];done))) (first
      | (go_at_call 118;refine(zjD (x:=x) (y:=x)).mono ?_;rintro e w1 ⟨rfl,a8,d1,rfl⟩))
     go_wp2;go_roundw;exact⟨k+1,by omega,by go_num,fE gG,fE (by rw[lJ HX.out,lJ HY.out,HT.out])⟩;exact gL
    ·have a5:=fE (show decide (x=y)=U from by simp[hxy])
     go_wp2_with(fail)
     go_region_held3 (fun w'=>Lg w' ⟨g,a1+k*3,V⟩=H (G x.Name)/\Lg w' ⟨g,a1+k*3+1,V⟩=H (F I x.Start)/\Lg w' ⟨g,a1+k*3+2,V⟩=H (F I x.il)/\Lg w' ⟨g',a0+k*3,V⟩=H (G y.Name)/\Lg w' ⟨g',a0+k*3+1,V⟩=H (F I y.Start)/\Lg w' ⟨g',a0+k*3+2,V⟩=H (F I y.il)) ((repeat' apply Ls) <;> (first | ((repeat (first | assumption | with_reducible refine zC ?_ _ _ | with_reducible refine zo ?_ _ | with_reducible refine zb ?_));done) | (simp[go_sem];done))) (first
      | (go_at_call 118;refine(zjD (x:=x) (y:=y)).mono ?_;rw[a5.out];rintro e w1 ⟨rfl,a8,d1,rfl⟩))
     go_wp2;go_ret;refine⟨zy ?_,gG⟩;symm;simp only[Me];rintro rfl;exact hxy (M0 (HX.out.symm.trans HY.out))
   ·go_wp2
    go_ret;refine⟨zy ?_,gG⟩;have:k=xs.length:=by omega
    exact lG
 ·have a7:((xs.length:Int) != (ys.length:Int))=M:=by simp;omega
  go_enter func50,ntmps50;exact lH
theorem zkX {S:Q Nat} (hO:(jU.sl 110).O w [J A n c] xs S)(hS:S.Nodup)(h0:0<k)(h1:k+pq xs<=1099511627776) :
  LR prog 58 #[J A n c,F I k] w fun e w'=>e=.returned (F I (k+pq xs))/\(jU.sl 110).O w' [J A n c] (uU xs k) S/\fJ S w w':=by
 obtain⟨_,_,hx,h2,h3⟩:=jV (Ty.read _ hO);injection hx with hA hn hc
 subst hA hn hc;clear h3;unfold pq at h1 |-;go_enter func58,ntmps58;go_wp2_with(fail);go_loopw [1,5] (fun a i wr=>∃(j:Nat),j<=xs.length/\a=F I (k+j*3)/\i=F I j/\Hid ((jU.sl 110).O wr [J A xs.length c] (m8 pV (fun _=>3) xs k j) S)/\Hid (fJ S w wr)) (fun _ i _=>xs.length-(Ml i).toNat)
 case atStart=>exact⟨0,Lv _,by simp,rfl,fE (by rw[tr];exact hO),fJ.refl _ _⟩
 case round=>
  obtain⟨j,hj,rfl,rfl,ho,hs⟩:=hrel;by_cases hlt:j<xs.length
  ·have a3:xs[j]?=H xs[j]:=Lo hlt
   obtain⟨g,ec,Sc,rfl,ad,af,ae,a9,a4,a2,a0,a1⟩:=OZ ho.out hS (tv a3 k);generalize hxe:xs[j]=x at a3 a4;clear hxe;obtain⟨rfl,rfl,_,_,_⟩:=Dd a4;have a6:=a0 0 _ rfl;have a7:=a0 1 _ rfl;have a8:=a0 2 _ rfl;simp only[Nat.add_zero,show jU.size=3 from rfl] at a6 a7 a8;have aa:=a2 (j*3);have ab:=a2 (j*3+1);have ac:=a2 (j*3+2);have HX:=fE a3;have HS:=fE a1;clear a0 a1 a2 a3 hO a4;go_wp2_with(first | (go_at_call 55;refine(pt _ (by omega) (by omega) _).mono ?_;rintro e w1 ⟨rfl,os,d,rfl⟩));go_roundw
   case rel=>
    have h:=HS.out [G (lr (k+j*3)),F I (k+j*3+1),F I (k+j*3+1+1)] (pV x (k+j*3)) (F1 (x:=pV x (k+j*3)) (uD _ (by omega) (by omega)) (show fV (k+j*3+1) from⟨by omega,by omega⟩) (show fV (k+j*3+1+1) from⟨by omega,by omega⟩));have e:=tw (mk:=pV) (cnt:=fun _=>3) HX.out k;rw[p9 3 (by omega),Ni] at e;rw[show pV x (k+j*3)=pV x (k+(j:Int)*((3:Nat):Int)) from rfl,e] at h;exact⟨j+1,by omega,by go_num,by go_num,fE (Ty.jl _ h.1 (fF.of _ _ _)),fE ((hs.out.trans h.2).trans ((fF.of _ _ _).only _))⟩
   case measure=>exact gL
  ·go_wp2
   have:j=xs.length:=by omega
   subst this;have a5:=ho.out;rw[tu] at a5;go_ret;exact⟨rfl,a5,hs.out⟩
theorem zkL (hx:(jU.sl 110).R w w.heap.size [v] (uU xs k))(h0:0<k)(h1:k+pq xs<=1099511627776) :
  LR prog 62 #[v,F I k] w fun e w'=>e=.returned (F I (k+pq xs))/\fF w w':=by
 obtain⟨A,c,rfl,h2,h3⟩:=jV hx;have a0:(uU xs k).length=xs.length:=ns _ _;rw[a0] at h2 hx |-;have HL:=fE a0;clear a0;unfold pq at h1 |-;go_enter func62,ntmps62;go_wp2_with(fail);go_loopw [1,5] (fun a i wr=>∃(j:Nat),j<=xs.length/\a=F I (k+j*3)/\i=F I j/\Hid (fF w wr)) (fun _ i _=>xs.length-(Ml i).toNat)
 case atStart=>exact⟨0,Lv _,by simp,rfl,fF.refl _⟩
 case round=>
  obtain⟨j,hj,rfl,rfl,hG⟩:=hrel;obtain⟨os,d,rfl⟩:=hG.out;clear hG;by_cases hlt:j<xs.length
  ·obtain⟨g,a6,x,rfl,aa,a1,a2,a3,a4,a7,a8,a9⟩:=zh hx (k:=j) (by rw[HL.out];exact hlt)
   have a5:x=pV xs[j] (k+j*3):=by
    have:=OX (mk:=pV) (cnt:=fun _=>3) (Lo hlt) k;rw[p9 3 (by omega),Ni] at this;exact M0 (a1.symm.trans this)
   clear a1 hx;subst a5;simp only[pV] at a2 a3 a4;go_wp2_with(fail)
   go_region_held3 (fun w'=>Lg w' ⟨g,a6+j*3,V⟩=H (G (lr (k+j*3)))) ((repeat' apply Ls) <;> (first | ((repeat (first | assumption | with_reducible refine zC ?_ _ _ | with_reducible refine zo ?_ _ | with_reducible refine zb ?_));done) | (simp[go_sem];done))) (first
    | (go_at_call 55;refine(pt _ (by omega) (by omega) _).mono ?_;rintro e w1 ⟨rfl,ab,d1,rfl⟩))
   go_wp2_with(fail);go_roundw;exact⟨j+1,by omega,by go_num,by go_num,fE gG⟩;exact gL
  ·go_wp2
   have:j=xs.length:=by omega
   subst this;go_ret;exact⟨kk (by push_cast;rfl),gG⟩
end Go.Proofs.YtiihkapmggfjkaaGreat
