/-
  PART.
-/
import Derived.Test.YtiihkapmggfjkaaGreatM5LawMakeDebug
import Derived.Test.YtiihkapmggfjkaaGreatM6LawMakeDebug
import Derived.Test.YtiihkapmggfjkaaGreatM7LawMakeDebug
import Derived.Deep.DeepMust
import Derived.Laws.Bits128
set_option linter.unusedVariables false
set_option linter.unusedSimpArgs false
set_option maxRecDepth 100000
set_option maxHeartbeats 8000000
namespace Go.Proofs.YtiihkapmggfjkaaGreat
open Value renaming int->F,bool->X,string->G
open IntKind renaming i64->I,wrap->Ll
open Bool renaming false->U,true->M
open Go renaming World->N,results->Ly,Calls->LR
open UInt8 renaming ofNat->NJ
open Tryz
open Go.RowKit
variable {w:N}{x y:gu}
theorem I9 (n:Int)(h0:0<=n)(h1:n<2 ^ 62):Ll I n=n:=Of n ⟨by omega,by omega⟩
theorem IG {B:Nat} (n:Nat)(h:n<256):qw.R w B [F .u8 (n:Int)] (NJ n):=IH (x:=(n:Int)) (by omega) (by omega)
def jw (c:Int):Nat × Bool:=
 if c=0 then (4,M)
 else if c=1∨c=2∨c=3∨c=4∨c=10∨c=11 then (2,M)
 else if c=16 then (2,U)
 else if c=12∨c=13∨c=14∨c=15 then (1,U)
 else (0,U)
theorem yw (c:Int):jw c=(4,M)∨jw c=(2,M)∨jw c=(2,U)∨jw c=(1,U)∨jw c=(0,U):=by
 unfold jw;split
 ·simp
 ·split
  ·simp
  ·split
   ·simp
   ·split <;> simp
theorem tH (c:Int):(jw c).1<=4:=by
 rcases yw c with h | h | h | h | h <;> rw[h] <;> decide
def zA (c:Int):Int:=if gW c 0 17=M then ((jw c).1:Int)+1 else 0
def AM (s:D)(a:Nat):Nat:=(s.data.toList[a]?.map UInt8.toNat).getD 0
theorem E6 {s:D} {a:Nat} (h:a<s.size):AM s a=s[a].toNat:=by
 unfold AM;rw[yz s a h];rfl
theorem zcx (c:Int)(w:N):LR prog 197 #[F I c] w fun e w'=>e=.returned (.tuple #[F I ((jw c).1:Int),X (jw c).2])/\w=w':=by
 go_enter func197,ntmps197;go_wp2
 all_goals
  go_ret2
  refine⟨?_,rfl⟩
  simp_all [jw]
theorem zeP (c:Int)(w:N):LR prog 181 #[F I c] w fun e w'=>e=.returned (.tuple #[F I ((jw c).1:Int),X (jw c).2])/\w=w':=by
 go_enter func181,ntmps181;go_wp2
 all_goals
  go_ret2
  refine⟨?_,rfl⟩
  simp_all [jw]
theorem zcV (c:Int)(w:N):LR prog 114 #[F I c] w fun e w'=>e=.returned (F I (zA c))/\w=w':=by
 have a0:=tH c;obtain⟨n,sg,hw⟩:∃ n sg,jw c=(n,sg):=⟨_,_,rfl⟩
 rw[hw] at a0;have HW:=fE hw;cases hb:gW c 0 17
 ·have HS:=fE (show zA c=0 from by simp[zA,hb])
  have HB:=fE hb;clear hb hw;go_enter func114,ntmps114;go_wp2_with(go_at_call 43;(with_reducible refine(jr _ _ _ _).mono ?_);rw[HB.out];rintro e w1 ⟨rfl,rfl⟩);go_ret;exact⟨kk HS.out.symm,rfl⟩
 ·have HS:=fE (show zA c=(n:Int)+1 from by simp[zA,hb,hw])
  have HB:=fE hb;clear hb hw;go_enter func114,ntmps114
  go_wp2_with(first
   | (go_at_call 43;(with_reducible refine(jr _ _ _ _).mono ?_);rw[HB.out];rintro e w1 ⟨rfl,rfl⟩)
   | (go_at_call 197;(with_reducible refine(zcx _ _).mono ?_);rw[HW.out];rintro e w1 ⟨rfl,rfl⟩))
  go_ret;exact⟨kk HS.out.symm,rfl⟩
theorem zkf (c:Int)(w:N):LR prog 98 #[F I c] w fun e w'=>e=.returned (F I (zA c))/\w=w':=by
 have a0:=tH c;obtain⟨n,sg,hw⟩:∃ n sg,jw c=(n,sg):=⟨_,_,rfl⟩
 rw[hw] at a0;have HW:=fE hw;cases hb:gW c 0 17
 ·have HS:=fE (show zA c=0 from by simp[zA,hb])
  have HB:=fE hb;clear hb hw;go_enter func98,ntmps98;go_wp2_with(go_at_call 33;(with_reducible refine(lj _ _ _ _).mono ?_);rw[HB.out];rintro e w1 ⟨rfl,rfl⟩);go_ret;exact⟨kk HS.out.symm,rfl⟩
 ·have HS:=fE (show zA c=1+(n:Int) from by simp[zA,hb,hw,Int.add_comm])
  have HB:=fE hb;clear hb hw;go_enter func98,ntmps98
  go_wp2_with(first
   | (go_at_call 33;(with_reducible refine(lj _ _ _ _).mono ?_);rw[HB.out];rintro e w1 ⟨rfl,rfl⟩)
   | (go_at_call 181;(with_reducible refine(zeP _ _).mono ?_);rw[HW.out];rintro e w1 ⟨rfl,rfl⟩))
  go_ret;exact⟨kk HS.out.symm,rfl⟩
def Ka (x:gu)(w:N)(r:Ending)(w':N):Prop:=r=.returned (.agg #[F I x.Kind,F I x.gN,G x.Name])/\gM iz w w' [F I x.Kind,F I x.gN,G x.Name] x/\fF w w'
theorem De (h0:fV x.Kind)(h1:fV x.gN)(h2:x.Name.size<=9223372036854775807):iz.O w [F I x.Kind,F I x.gN,G x.Name] x ([]):=by
 have h:iz.O w [F I x.Kind,F I x.gN,G x.Name] x ([]++([]++[])):=⟨[F I x.Kind],[F I x.gN,G x.Name],[],([]++[]),rfl,rfl,⟨rfl,h0.1,h0.2,rfl⟩,⟨[F I x.gN],[G x.Name],[],[],rfl,rfl,⟨rfl,h1.1,h1.2,rfl⟩,⟨rfl,h2,rfl⟩⟩⟩
 simpa using h
theorem Kh:x=y↔x.Kind=y.Kind/\x.gN=y.gN/\x.Name=y.Name:=by
 cases x;cases y;simp
def lS (x:gu):Nat:=x.Name.size
theorem zsG (h0:fV x.Kind)(h1:fV x.gN)(h2:x.Name.size<=9223372036854775807)(hn:lS x<=1099511627776):LR prog 184 #[.agg #[F I x.Kind,F I x.gN,G x.Name]] w (Ka x w):=by
 unfold lS at hn;go_enter func184,ntmps184;go_wp2;refine Ln (v:=.agg #[F I x.Kind,F I x.gN,G x.Name]) (by simp[Ly,results184,go_sem]) rfl ⟨rfl,?_,gG⟩;exact⟨_,De h0 h1 h2,Ou,fun b hb=>absurd hb (MX)⟩
theorem zpp {left:Int} (h2:x.Name.size<=9223372036854775807)(h00:0<=left)(h01:left<=1099511627776):LR prog 171 #[.agg #[F I x.Kind,F I x.gN,G x.Name],F I left] w fun e w'=>e=.returned (F I (kp left (lS x)))/\fF w w':=by
 obtain⟨n0,a0⟩:∃ n,x.Name.size=n:=⟨_,rfl⟩
 have HS:=fE (show lS x=n0 from by unfold lS;rw[a0]);have a1:=fE a0;clear a0;by_cases c0':(n0:Int)<=left
 ·skip
  have a2:x.Name.size=n0:=a1.out;go_enter func171,ntmps171;go_wp2;go_ret;exact⟨kk (by rw[HS.out];unfold kp;rw[Lu (by omega)] <;> omega),gG⟩
 ·have a2:x.Name.size=n0:=a1.out
  go_enter func171,ntmps171;go_wp2;go_ret;exact⟨kk (by rw[HS.out];unfold kp;rw[Lt (by omega)]),gG⟩
theorem zpc:LR prog 199 #[.agg #[F I x.Kind,F I x.gN,G x.Name],.agg #[F I y.Kind,F I y.gN,G y.Name]] w fun e w'=>e=.returned (X (decide (x=y)))/\fF w w':=by
 go_enter func199,ntmps199;go_wp2
 all_goals
  go_ret
  refine⟨zy ?_,gG⟩
  simp_all [Kh,tg]
end Go.Proofs.YtiihkapmggfjkaaGreat
