/-
  PART.
-/
import Derived.Test.YthgbglbaemelhaaGreatM12LawSlices
import Derived.Test.YthgbglbaemelhaaGreatM21LawSlices
import Derived.Test.YthgbglbaemelhaaGreatM22LawSlices
set_option linter.unusedVariables false
set_option linter.unusedSimpArgs false
set_option maxRecDepth 100000
set_option maxHeartbeats 8000000
namespace Go.Proofs.YthgbglbaemelhaaGreat
open Option renaming none->D,some->Z,getD_some->Sq,map_some->Tm
open Bool renaming false->I,true->M
open List renaming length_cons->Rc,length_nil->Ru,length_singleton->RD,sum_cons->SV,foldl_cons->TC
open Go.RowKit
variable {p:Q fv}
def xd:Q fv:=[⟨0,sU,[],[]⟩,⟨2,emp,[],[⟨0,1,emp⟩]⟩,⟨6,emp,[],[⟨0,1,emp⟩]⟩,⟨7,emp,[],[]⟩]
theorem Pe:zv xd=M:=by decide
theorem JK (l:Q fC)(n:Int):(pO l n).length=l.length:=by
 unfold pO;cases h:l.getLast? with
 | none=>rfl
 | some x=>
  have a0:l≠[]:=by intro he;subst he;simp at h
  have:=List.length_pos_iff.2 a0;simp only[QR,List.length_dropLast,RD];omega
theorem DF {P:N->Prop} {l:Q fC} {n:Int} (h:∀ x∈l,P x.Name):∀ x∈pO l n,P x.Name:=by
 unfold pO;cases hl:l.getLast? with
 | none=>exact h
 | some y=>
  intro x hx;simp only[Q7,QN] at hx;rcases hx with hx | rfl
  ·exact h x (List.dropLast_subset l hx)
  ·exact h y (List.mem_of_getLast? hl)
theorem Ee {p:Q fv}{P:N->Prop}(hP:∀ k:Int,P (mc p k)):∀(xs:Q fL)(i:gu),(∀ x∈i.fm,P x.Name)->(xs.foldl (mU p) i).fm.length<=i.fm.length+xs.length/\∀ x∈(xs.foldl (mU p) i).fm,P x.Name
 | [],i,h=>⟨Q8 _,h⟩
 | x::r,i,h=>by
  have h1:(mU p i x).fm.length<=i.fm.length+1/\∀ y∈(mU p i x).fm,P y.Name:=by
   unfold mU;simp only;rw[JK];split
   ·refine⟨by simp,DF fun y hy=>?_⟩
    rcases Q7.1 hy with hy | hy
    ·exact h y hy
    ·rw[QN.1 hy];exact hP _
   ·exact⟨by omega,DF h⟩
  have h2:=Ee hP r (mU p i x) h1.2;rw[TC,Rc];exact⟨by omega,h2.2⟩
theorem F5 (hp:zv p=M)(k:Int):(mc p k).size<=8:=by
 unfold mc;cases h:p[k.toNat]? with
 | none=>exact QX _
 | some x=>
  have h1:=(qj hp).line k.toNat x h;unfold oh at h1;simp only[Q4] at h1;have h2:=h1.2.1;unfold vR at h2;simp only[Tm,Sq];split at h2
  ·exact Cy h2
  ·rw[Tl h2];exact QX _
theorem G1:∀(l:Q fC),(∀ x∈l,x.Name.size<=8)->lN l<=32*l.length
 | [],_=>Q8 _
 | x::l,h=>by
  have h1:=G1 l (fun y hy=>h y (Sm _ hy));have h2:=h x Tc;simp only[lN,RS,SV,Rc] at h1 |-;omega
theorem DQ:∀(l:Q fL)(out:Q gJ),(l.foldl pT out).length<=out.length+l.length
 | [],_=>Q8 _
 | x::r,out=>by
  have h1:(pT out x).length<=out.length+1:=by
   unfold pT;simp only;split
   ·simp
   ·split
    ·simp only[QR,List.length_dropLast,RD];omega
    ·simp
  have h2:=DQ r (pT out x);rw[TC,Rc];omega
theorem J9 (l:Q fL):(oN l).length<=l.length:=by
 unfold oN;split
 ·have:=DQ l []
  simpa using this
 ·exact QX _
theorem Ez:∀(l:Q fL)(q:X fP),(qY q l).length<=l.length
 | [],_=>Q8 _
 | x::r,q=>by
  have h:=Ez r (Z x.Item);rw[Rc];cases q with
  | none=>simp only[qY,QR,RD];omega
  | some y=>
   simp only[qY,QR];split
   ·simp only[Ru];omega
   ·simp only[RD];omega
theorem FT {α β:Type}{f:α->Q β}{QK:Nat}(h:∀ a,(f a).length<=QK):∀ l:Q α,(l.flatMap f).length<=l.length*QK
 | []=>by simp
 | a::l=>by
  have h1:=h a;have h2:=FT h l;rw[List.flatMap_cons,QR,Rc,UN];omega
theorem By (p:Q fv)(level:Nat):∀(n:Nat)(l:Q fL),(nR p level n l).length<=n
 | 0,_=>Q8 _
 | n+1,[]=>QX _
 | n+1,x::r=>by
  unfold nR;split
  ·simp only[Rc]
   have:=By p level n (r.drop (r.takeWhile (pz p level x.Item.fB (kP p x.Item level))).length);omega
  ·have:=By p level n r
   omega
theorem E7 {QE:Nat}:∀(xs:Q fL)(m:Nat),m<=QE->(∀ x∈xs,x.Item.fB.length<=QE)->xs.foldl (fun n x=>max n x.Item.fB.length) m<=QE
 | [],m,h,_=>h
 | x::r,m,h,hx=>E7 r _ (Nat.max_le.2 ⟨h,hx x (.head _)⟩) (fun y hy=>hx y (.tail _ hy))
theorem Jf {xs:Q fL} (hc:∀ x∈xs,x.Item.fB.length<=3):(ma p xs).length<=3*xs.length:=by
 unfold ma;split
 ·have h1:=FT (f:=fun level=>nR p level xs.length xs) (QK:=xs.length) (fun a=>By p a _ _) (List.range (sP xs))
  have h2:sP xs<=3:=E7 xs 0 (by omega) hc;rw[List.length_range] at h1;have h3:sP xs*xs.length<=3*xs.length:=Sk _ h2;omega
 ·exact QX _
structure lR (d:gE):Prop where
 syms:lN d.fm<=460800
 rules:d.fY.length<=14400
 rows:d.Rows.length<=14400
 inl:d.fI.length<=43200
theorem DD (p:Q fv)(b:fV)(k:Int):lR (oH p b k):=by
 unfold oH;split
 ·rename_i h
  obtain⟨h1,h2,_⟩:=BT p b k;have h3:=Ee (p:=p) (P:=fun s=>s.size<=8) (F5 h.1) (jV p b k) ⟨emp,[]⟩ (by simp);have h4:=G1 _ h3.2;have h5:=h3.1;simp only[Ru] at h5;have h6:=J9 (jV p b k);have h7:=Ez (jV p b k) D;have h8:=Jf (p:=p) (fun x hx=>(h1 x hx).chain);exact⟨show lN (jq p b k).fm<=460800 from by unfold jq;omega,show (oN (jV p b k)).length<=14400 by omega,show (rY (jV p b k)).length<=14400 from by unfold rY;omega,show (ma p (jV p b k)).length<=43200 by omega⟩
 ·exact⟨by decide,by decide,by decide,by decide⟩
theorem Ej {d:gE} (h:lR d):(mI d).size<=2966466:=by
 unfold mI;split
 ·have h1:=Kg d
  have h2:=pq (tK (sO d));have h3:=h.syms;have h4:=h.rules;have h5:=h.rows;have h6:=h.inl;rw[mr];omega
 ·exact QX _
def Aq (s:gv)(x y:gE × Bool):iV × Bool:=
 if x.2=M/\y.2=M/\pt ⟨s,[x.1,y.1]⟩=M then (⟨s,[x.1,y.1]⟩,M) else (⟨⟨[],[],[]⟩,[]⟩,I)
def zX (p:Q fv)(b:fV)(s:gv):iV × Bool:=Aq s (qz (mI (oH p b 0))) (qz (mI (oH p b 1)))
end Go.Proofs.YthgbglbaemelhaaGreat
