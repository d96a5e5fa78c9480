/-
  PART.
-/
import Derived.WalkKit
import Derived.ProofKit
import Derived.OpenShut
import Derived.WalkSpells
import Derived.Below
import Derived.Carry
import Derived.ChangeOld
import Derived.Lib.Hide
import Derived.Maps.AppendAt
import Derived.Deep.AppendLies
import Derived.Deep.Draws
import Derived.Deep.Slices
import Derived.Deep.Fields
import Derived.Laws.OwnMore
import Derived.Laws.MakeOwn
import Derived.Laws.NewBlocks
import Derived.OwnWalk
import Derived.Test.YthgbglbaemelhaaGreatProg
import Derived.BigQuiet
import Derived.BigRegion
import Derived.Deep.QuietTactic
import Derived.RegionTactic
set_option linter.unusedVariables false
set_option linter.unusedSimpArgs false
set_option maxRecDepth 100000
set_option maxHeartbeats 8000000
namespace Go.Proofs.YthgbglbaemelhaaGreat
open Value renaming slice->G,int->J,bool->H,string->V,ownBlock->Tv
open IntKind renaming i64->Z
open Option renaming none->C,some->D,map_some->TK
open Obj renaming cells->F
open Bool renaming false->I,true->M
open Go renaming World->U,Calls->RD,Addr->RJ,TypeId->R5,madeCells->SM,bytes->Ti
open World renaming cell?->Rb,frozen?->Rx,setCell->R6,alloc->Su
open _root_.Int renaming toNat_natCast->Ry
open List renaming length_cons->RA,take_succ_cons->RZ
open RowKit renaming intOf->RS,wrap64->SN
open _root_.Array renaming length_toList->Sk
open _root_.Nat renaming add_zero->Sr
open Builtin renaming append_->Tk
open Ending renaming returned->Tq
open UInt8 renaming ofNat->Tr
open Tryz
open Go.RowKit
abbrev Q.{u}:=List.{u}
abbrev X.{u}:=Option.{u}
abbrev N:=ByteArray
abbrev Rc.{u}:=@List.mem_singleton.{u}
abbrev Rd.{u}:=@List.getElem?_eq_some_iff.{u}
abbrev Re:=@Go.heap_alloc_new
abbrev Rf:=@And.intro
abbrev Rh.{u}:=@List.length_append.{u}
abbrev Ri:=@Nat.lt_of_lt_of_le
abbrev Rj:=@Go.bodyPost_ret
abbrev Rk:=@decide_eq_false
abbrev Rl:=@Nat.zero_le
abbrev Rm.{u}:=@beq_eq_false_iff_ne.{u}
abbrev Rn.{u}:=@List.getElem?_eq_getElem.{u}
abbrev Ro.{u}:=@if_neg.{u}
abbrev Rp:=@decide_eq_true
abbrev Rq:=@Bool.and_eq_true
abbrev Rr.{u}:=@List.mem_append.{u}
abbrev Rs.{u}:=@if_pos.{u}
abbrev Rt.{u}:=@List.mem_of_getElem?.{u}
abbrev Ru:=@Nat.le_refl
abbrev Rw.{u}:=@List.drop_eq_getElem_cons.{u}
abbrev Rz:=@Go.World.size_alloc
abbrev RB.{u,v}:=@Option.bind_eq_some_iff.{u,v}
abbrev RC:=@decide_eq_true_eq
abbrev RE:=@Int.eq_ofNat_of_zero_le
abbrev RF:=@Nat.zero_add
abbrev RG:=@Nat.le_trans
abbrev RH.{u}:=@List.mem_append_left.{u}
abbrev RI:=@Go.bodyPost_end
abbrev RK.{u}:=@List.mem_append_right.{u}
abbrev RL.{u}:=@List.drop_length.{u}
abbrev RM.{u}:=@List.nodup_append.{u}
abbrev RO.{u}:=@List.mem_cons.{u}
abbrev RP.{u}:=@List.length_set.{u}
abbrev RQ.{u}:=@beq_iff_eq.{u}
abbrev RT.{u}:=@Option.some.injEq.{u}
abbrev RU.{u}:=@List.append_assoc.{u}
abbrev RX:=@Bool.eq_false_or_eq_true
abbrev R7:=@Go.World.block_lt_of_cell?
abbrev R8.{u}:=@List.take_add_one.{u}
abbrev R9.{u}:=@Array.getElem?_eq_some_iff.{u}
abbrev Sd.{u}:=@List.getElem?_append_right.{u}
abbrev Sf.{u}:=@List.getD_eq_getElem?_getD.{u}
abbrev Sg:=@ByteArray.size_append
abbrev Sj.{u}:=@List.length_replicate.{u}
abbrev Sm.{u}:=@List.drop_succ_cons.{u}
abbrev Sq.{u}:=@List.not_mem_nil.{u}
abbrev St:=@Nat.sub_self
abbrev Sw:=@Go.cell_of_row
abbrev Sx.{u}:=@List.drop_zero.{u}
abbrev Sz.{u,v}:=@List.map_cons.{u,v}
abbrev SC.{u}:=@List.take_length.{u}
abbrev SG:=@Go.IntWalk.i64_in
abbrev SJ:=@decide_eq_false_iff_not
abbrev SK.{u}:=@List.getElem?_append_left.{u}
abbrev SQ.{u}:=@List.getElem?_eq_none_iff.{u}
abbrev SR.{u}:=@List.take_of_length_le.{u}
abbrev SU.{u,v}:=@Option.map_eq_some_iff.{u,v}
abbrev SV.{u}:=@List.mem_cons_of_mem.{u}
abbrev SW:=@ByteArray.append_assoc
abbrev SX.{u}:=@List.length_take.{u}
abbrev SY:=@Go.Value.slice.injEq
abbrev Ta.{u,v}:=@congrArg.{u,v}
abbrev Tb:=@Nat.mul_le_mul_right
abbrev Tc.{u}:=@List.getElem?_take.{u}
abbrev Td.{u}:=@List.all_eq_true.{u}
abbrev Tf.{u}:=@Classical.choose_spec.{u}
abbrev Tj:=@Go.wpStill_nil
abbrev Tl.{u}:=@List.append_nil.{u}
abbrev Tm:=@or_false
abbrev Tn:=@Go.info_parts
abbrev To.{u}:=@List.getElem?_eq_none.{u}
abbrev Tp.{u,v}:=@Prod.mk.injEq.{u,v}
abbrev Ts.{u}:=@List.any_eq_true.{u}
abbrev Tt.{u}:=@List.length_drop.{u}
abbrev Tw.{u}:=@List.drop_eq_nil_of_le.{u}
abbrev Tx:=@Nat.lt_succ_of_lt
abbrev Tz:=@Int.le_refl
abbrev TA.{u}:=@List.mem_cons_self.{u}
abbrev TB:=@Int.add_sub_cancel
abbrev TC.{u}:=@List.filter_cons.{u}
abbrev TD:=@Nat.succ_le_succ
abbrev TF:=@Int.add_zero
abbrev TG.{u}:=@List.getElem?_of_mem.{u}
abbrev TH.{u}:=@List.length_eq_zero_iff.{u}
abbrev TI.{u}:=@if_true.{u}
abbrev TJ:=@of_decide_eq_true
abbrev TL.{u}:=@List.cons.injEq.{u}
abbrev TM.{u}:=@Array.getElem?_eq_none.{u}
abbrev TN.{u}:=@List.getElem?_set_self.{u}
abbrev TO:=@Nat.mul_one
abbrev TP:=@Bool.true_and
abbrev TR:=@Nat.le_add_right
abbrev TS.{u}:=@List.setIfInBounds_toArray.{u}
abbrev TT.{u}:=@List.getElem?_drop.{u}
abbrev TU.{u}:=@List.length_filter_le.{u}
abbrev TV:=@ByteArray.data_append
abbrev TW.{u}:=@List.mem_or_eq_of_mem_set.{u}
abbrev TX.{u}:=@List.nodup_cons.{u}
abbrev Ua:=@Nat.le_of_eq
abbrev Uc.{u}:=@List.eq_of_mem_replicate.{u}
abbrev Ud:=@and_true
abbrev Ue:=@Nat.and_two_pow_sub_one_eq_mod
abbrev Uf.{u}:=@List.drop_drop.{u}
abbrev Uh.{u}:=@List.eq_nil_of_length_eq_zero.{u}
abbrev Uj:=@Nat.add_comm
abbrev Uk:=@Go.Addr.add_lit
abbrev Ul.{u,v}:=@List.mem_map.{u,v}
abbrev Um.{u}:=@List.all_append.{u}
abbrev Un.{u,v}:=@List.map_append.{u,v}
abbrev Uo:=@Nat.lt_irrefl
abbrev Up:=@Bool.and_eq_false_iff
abbrev Uq:=@Bool.not_eq_true'
abbrev Ur:=@Nat.one_mul
abbrev Us:=@Nat.pow_le_pow_right
abbrev Ut:=@Nat.ne_of_gt
abbrev Uu.{u}:=@List.getLast?_eq_getElem?.{u}
abbrev Uv:=@Go.World.cell?_setCell_other
abbrev Uw.{u}:=@Array.getElem?_eq_getElem.{u}
abbrev Ux:=@Go.ByteArray.toList_eq
abbrev Uy.{u,v}:=@List.length_map.{u,v}
abbrev Uz.{u}:=@Array.ext_getElem?.{u}
abbrev UA:=@Nat.eq_zero_or_pos
abbrev UB:=@Bool.true_eq_false
abbrev UC.{u}:=@List.filter_append.{u}
abbrev UD:=@decide_eq_true_iff
abbrev UE:=@of_decide_eq_false
abbrev UF:=@Nat.lt_trichotomy
abbrev UG:=@ByteArray.size_extract
abbrev UH.{u}:=@List.drop_left.{u}
abbrev UI.{u,v}:=@List.getElem?_map.{u,v}
abbrev UJ.{u}:=@List.filter_eq_nil_iff.{u}
abbrev UK.{u}:=@Array.getElem?_modify.{u}
abbrev UL.{u}:=@List.set_append_right.{u}
abbrev UM:=@Nat.add_mul
abbrev UN.{u}:=@List.getElem?_set_ne.{u}
abbrev UO:=@Nat.le_succ
abbrev UP:=@Bool.eq_iff_iff
abbrev UQ:=@Bool.or_eq_true
abbrev UR:=@Nat.not_lt_zero
abbrev US:=@Go.wpList_plain
abbrev UT:=@Nat.zero_mul
abbrev UU:=@Nat.lt_or_ge
abbrev UW:=@Nat.ne_of_lt
abbrev UX:=@Go.RowKit.Below.heap_setCell
abbrev UY:=@Nat.eq_or_lt_of_le
abbrev UZ:=@Int.tdiv_eq_ediv_of_nonneg
abbrev U0:=@Nat.mul_le_mul
abbrev U1:=@true_and
abbrev U2.{u}:=@List.getElem?_set.{u}
abbrev U3.{u}:=@List.ext_getElem?.{u}
abbrev U4:=@Bool.eq_false_iff
abbrev U5:=@Nat.add_assoc
abbrev U6:=@ByteArray.ext
abbrev U7:=@Go.Addr.mk.injEq
abbrev U8:=@Bool.false_or
abbrev U9:=@Nat.mod_eq_of_lt
abbrev Va:=@Nat.mod_lt
abbrev Vb:=@Nat.mul_comm
abbrev Vc:=@Nat.succ_mul
abbrev Vd:=@Nat.le_of_lt
abbrev Ve:=@Nat.min_eq_left
abbrev Vf:=@Bool.not_false
abbrev Vh:=@Bool.and_false
abbrev Vi:=@Go.getD_set_ne
abbrev Vj:=@and_assoc
abbrev Vk:=@Or.elim
variable {A:X RJ}{B c g hi k m n:Nat}{P:Program}{S S':Q Nat}{W W0 a b w w1 w2:U}{cs:Q Value}{cur:Array Value}{e e':R5}{v:Value}{x:Int}
theorem lay:(∀(a:Act)(t:Tmp)(v:Value),a.put (D t) v = { a with tmps:=a.tmps.setIfInBounds t v })/\(∀(a:Act)(v:Value),a.put C v=a)/\(∀(l:Q Value)(i:Nat)(v:Value),l.toArray.setIfInBounds i v=(l.set i v).toArray)/\(∀(x v:Value)(l:Q Value),(x::l).set 0 v=v::l)/\(∀(x v:Value)(l:Q Value)(n:Nat),(x::l).set (n+1) v=x::l.set n v):=⟨fun _ _ _=>rfl,fun _ _=>rfl,fun _ _ _=>TS ..,fun _ _ _=>rfl,fun _ _ _ _=>rfl⟩
theorem iw {n:Int} (h : -9223372036854775808<=n/\n<=9223372036854775807:=by omega):IntKind.i64.wrap n=n:=SG _ ⟨h.1,by omega⟩
theorem blt {o:Obj} (h:w.heap[g]?=D o):g<w.heap.size:=(R9.1 h).1
theorem fh {p:Prop} (h:p):Hid p:=Lib.hid h
theorem gJ:(∀(l:Q Value)(i:Nat)(h:i<l.toArray.size),l.toArray[i]=l[i]'(by simpa using h))/\(∀(a:Value)(l:Q Value)(i:Nat)(h:i+1<(a::l).length),(a::l)[i+1]=l[i]'(by simpa using h))/\(∀(a:Value)(l:Q Value)(h:0<(a::l).length),(a::l)[0]=a)/\(∀(a:Act)(t:Tmp)(v:Value),a.put (D t) v = { a with tmps:=a.tmps.setIfInBounds t v })/\(∀(a:Act)(v:Value),a.put C v=a)/\(∀(l:Q Value)(i:Nat)(v:Value),l.toArray.setIfInBounds i v=(l.set i v).toArray)/\(∀(x v:Value)(l:Q Value),(x::l).set 0 v=v::l)/\(∀(x v:Value)(l:Q Value)(n:Nat),(x::l).set (n+1) v=x::l.set n v):=⟨fun _ _ _=>List.getElem_toArray ..,fun _ _ _ _=>rfl,fun _ _ _=>rfl,lay⟩
theorem K9 {p:Prop} (h:p:=by omega):p:=h
theorem II {p:Prop} (h:p:=by simp):p:=h
theorem qo {p:Prop} (h:p:=by decide):p:=h
theorem Ar {p:Prop} (h:p:=by go_num):p:=h
theorem Fs {p:Prop} (h:p:=by kernel_rfl):p:=h
theorem gM {p:Prop} (h:p:=by(simp[RS];try omega)):p:=h
def fy (w:U)(os:Array Obj)(d:Nat):U:={ w with heap:=w.heap++os,drawn:=d }
section
variable {w:U}
theorem xx (os:Array Obj)(d n:Nat)(hn:n<w.heap.size):(fy w os d).heap[n]?=w.heap[n]?:=by
 simp only[fy];exact Array.getElem?_append_left hn
@[simp,go_sem] theorem kH (os:Array Obj) (d:Nat):(fy w os d).heap.size=w.heap.size+os.size:=by simp[fy]
@[go_sem] theorem QP (os:Array Obj) (d:Nat):(fy w os d).tape=w.tape:=rfl
@[go_sem] theorem Om (os:Array Obj) (d n i:Nat) (hn:n<w.heap.size):(fy w os d).cell? ⟨n,i,C⟩=Rb w ⟨n,i,C⟩:=by
 simp only[Rb,xx os d n hn]
@[go_sem] theorem FV (os:Array Obj) (d n i:Nat) (hn:n<w.heap.size):(fy w os d).frozen? ⟨n,i,C⟩=Rx w ⟨n,i,C⟩:=by
 simp only[Rx,xx os d n hn]
@[go_sem] theorem Lz (os:Array Obj) (d n i:Nat) (v:Value) (hn:n<w.heap.size):(fy w os d).setCell ⟨n,i,C⟩ v=fy (w.setCell ⟨n,i,C⟩ v) os d:=by
 unfold R6 fy;congr 1;apply Uz;intro k;simp only[UK,Array.getElem?_append,Array.size_modify];by_cases hk:k=n
 ·subst hk
  simp[hn]
 ·have a0:¬ n=k:=fun e=>hk e.symm
  simp[a0]
theorem PR (os os':Array Obj)(d d':Nat):fy (fy w os d) os' d'=fy w (os++os') d':=by
 simp[fy]
@[go_sem] theorem QM (os:Array Obj) (d:Nat):fy w.drew os d=fy w os d:=rfl
@[go_sem] theorem QO (n:Nat) (os:Array Obj) (d:Nat):fy (w.drewN n) os d=fy w os d:=rfl
theorem Ep (o:Obj):w.alloc o=fy w #[o] w.drawn:=by
 unfold fy Su;simp
theorem Ly:w.drew=fy w #[] (w.drawn+1):=by
 unfold fy World.drew;simp
theorem On:w=fy w #[] w.drawn:=by simp[fy]
end
@[go_sem] theorem QI {a b c:Nat} (h:a<b):(a<b+c)=True:=by simp;omega
@[go_sem] theorem QG (w:U) (n:Nat) (p:RJ) (v:Value):(w.drewN n).setCell p v=(w.setCell p v).drewN n:=rfl
@[go_sem] theorem QK (w:U) (n:Nat) (o:Obj):(w.drewN n).alloc o=(w.alloc o).drewN n:=rfl
def mH (n:Nat)(w:U):Prop:=n<w.heap.size
@[go_sem] theorem QT (n:Nat) (w:U) (o:Obj):mH n (w.alloc o)=(n=w.heap.size∨mH n w):=by
 unfold mH;rw[Rz];exact propext ⟨fun h=>K9,fun h=>K9⟩
@[go_sem] theorem QR (n:Nat) (w:U) (os:Array Obj) (d:Nat):mH n (fy w os d)=(mH n w∨(w.heap.size<=n/\n<w.heap.size+os.size)):=by
 unfold mH;rw[kH];exact propext ⟨fun h=>K9,fun h=>K9⟩
@[go_sem] theorem QQ (n:Nat) (w:U):mH n w.drew=mH n w:=rfl
@[go_sem] theorem QU (n k:Nat) (w:U):mH n (w.drewN k)=mH n w:=rfl
@[go_sem] theorem QN (n:Nat) (w:U) (p:RJ) (v:Value):mH n (w.setCell p v)=mH n w:=by
 unfold mH;rw[World.size_setCell]
@[go_sem] theorem QS {n:Nat} {w:U} (h:n<w.heap.size):mH n w=True:=eq_true h
section
variable {w:U}
@[go_sem] theorem QE (o:Obj) (n i:Nat) (hn:mH n w):(w.alloc o).cell? ⟨n,i,C⟩=Rb w ⟨n,i,C⟩:=World.cell?_alloc_past o n i hn
@[go_sem] theorem QD (o:Obj) (n i:Nat) (hn:mH n w):(w.alloc o).frozen? ⟨n,i,C⟩=Rx w ⟨n,i,C⟩:=World.frozen?_alloc_past o n i hn
@[go_sem] theorem JH (o:Obj) (n i:Nat) (v:Value) (hn:mH n w):(w.alloc o).setCell ⟨n,i,C⟩ v=(w.setCell ⟨n,i,C⟩ v).alloc o:=World.setCell_alloc_past o n i v hn
@[go_sem] theorem QL (os:Array Obj) (d n i:Nat) (hn:mH n w):(fy w os d).cell? ⟨n,i,C⟩=Rb w ⟨n,i,C⟩:=Om os d n i hn
@[go_sem] theorem QF (os:Array Obj) (d n i:Nat) (hn:mH n w):(fy w os d).frozen? ⟨n,i,C⟩=Rx w ⟨n,i,C⟩:=FV os d n i hn
@[go_sem] theorem QH (os:Array Obj) (d n i:Nat) (v:Value) (hn:mH n w):(fy w os d).setCell ⟨n,i,C⟩ v=fy (w.setCell ⟨n,i,C⟩ v) os d:=Lz os d n i v hn
end
def fu (w w':U):Prop:=∃ os d,w'=fy w os d
theorem fu.refl (w:U):fu w w:=⟨_,_,On⟩
theorem fu.lq (a:U)(os:Array Obj)(d:Nat):fu (fy a.drew os d) (fy a os d):=fu.refl (fy a os d)
theorem fu.kt (a:U)(n:Nat)(os:Array Obj)(d:Nat):fu (fy (a.drewN n) os d) (fy a os d):=fu.refl (fy a os d)
theorem fu.of (w:U)(os:Array Obj)(d:Nat):fu w (fy w os d):=⟨_,_,rfl⟩
theorem fu.trans {c:U} (h:fu a b)(k:fu b c):fu a c:=by
 obtain⟨o,d,rfl⟩:=h;obtain⟨o',d',rfl⟩:=k;exact⟨_,_,PR _ _ _ _⟩
theorem fu.alloc {a b:U}(h:fu a b)(o:Obj):fu a (b.alloc o):=h.trans ⟨_,_,Ep o⟩
theorem fu.drew {a b:U}(h:fu a b):fu a b.drew:=h.trans ⟨_,_,Ly⟩
theorem fu.more (h:fu a b)(os:Array Obj)(d:Nat):fu a (fy b os d):=h.trans ⟨_,_,rfl⟩
theorem fu.size {a b:U}(h:fu a b):a.heap.size<=b.heap.size:=by
 obtain⟨o,d,rfl⟩:=h;rw[kH];omega
theorem fu.block (h:fu a b){k:Nat}(hk:k<a.heap.size):b.heap[k]?=a.heap[k]?:=by
 obtain⟨o,d,rfl⟩:=h;exact xx _ _ _ hk
theorem fu.below (h:fu a b):Below a.heap.size a b:=by
 obtain⟨o,d,rfl⟩:=h;exact⟨rfl,rfl,rfl,by simp[fy],fun k hk=>xx _ _ _ hk⟩
theorem fu.jN (h:Below a.heap.size a b):fu a b:=by
 refine⟨b.heap.extract a.heap.size b.heap.size,b.drawn,?_⟩
 have hh:b.heap=a.heap++b.heap.extract a.heap.size b.heap.size:=by
  apply Uz;intro k;rw[Array.getElem?_append];split
  ·rename_i hk
   exact h.block k hk
  ·rename_i hk
   rw[Array.getElem?_extract];have:=h.size;split
   ·congr 1
    omega
   ·rw[TM]
    omega
 unfold fy;rw[<-hh];have h1:=h.os;have h2:=h.tape;have h3:=h.output;cases a;cases b;simp only at h1 h2 h3;subst h1 h2 h3;rfl
theorem fu.grown {W0 W w':U}{row:X Nat}(h:fu W0 W)(hg:W.grownBy w' row)(hr:∀ k,row=D k->W0.heap.size<=k):fu W0 w':=
 fu.jN (h.below.grown hg h.size hr)
theorem fu.setRow (h:fu W0 W){p:RJ}(hp:W0.heap.size<=p.block)(u:Value):fu W0 (W.setCell p u):=
 fu.jN (h.below.setCell hp u)
def gQ (n m:Nat)(w w':U):Prop:=∀ k,n<=k->k<m->w'.heap[k]?=w.heap[k]?
theorem gQ.refl (n m:Nat)(w:U):gQ n m w w:=fun _ _ _=>rfl
theorem gQ.base {os:Array Obj} {d d':Nat} (h:b.heap.size=a.heap.size)(hn:a.heap.size<=n):gQ n m (fy a os d) (fy b os d'):=by
 intro k hk _;simp only[Go.Proofs.YthgbglbaemelhaaGreat.fy];rw[Array.getElem?_append_right K9,Array.getElem?_append_right K9,h]
theorem gQ.more (h:gQ n m a b)(hm:m<=b.heap.size)(os:Array Obj)(d:Nat):gQ n m a (Go.Proofs.YthgbglbaemelhaaGreat.fy b os d):=
 fun k h1 h2=>(xx os d k K9).trans (h k h1 h2)
theorem gQ.alloc {n m:Nat}{a b:U}(h:gQ n m a b)(hm:m<=b.heap.size)(o:Obj):gQ n m a (b.alloc o):=
 fun k h1 h2=>(Below.heap_alloc b o k K9).trans (h k h1 h2)
theorem gQ.drew {n m:Nat}{a b:U}(h:gQ n m a b):gQ n m a b.drew:=h
theorem gQ.drewN {n m k:Nat}{a b:U}(h:gQ n m a b):gQ n m a (b.drewN k):=h
theorem gQ.fy (h:fu a b):gQ n a.heap.size a b:=fun _ _ h2=>h.block h2
structure fx (S:Q Nat)(w w':U):Prop where
 os:w'.os=w.os
 tape:w'.tape=w.tape
 output:w'.output=w.output
 size:w.heap.size<=w'.heap.size
 block:∀ k,k<w.heap.size->k∉S->w'.heap[k]?=w.heap[k]?
theorem fx.refl (S:Q Nat)(w:U):fx S w w:=⟨rfl,rfl,rfl,Ru _,fun _ _ _=>rfl⟩
theorem fx.trans {S:Q Nat}{a b c:U}(h:fx S a b)(k:fx S b c):fx S a c:=
 ⟨k.os.trans h.os,k.tape.trans h.tape,k.output.trans h.output,RG h.size k.size,fun i hi hn=>(k.block i (Ri hi h.size) hn).trans (h.block i hi hn)⟩
theorem fx.mono (h:fx S a b)(hs:∀ k∈S,k∈S'):fx S' a b:=
 ⟨h.os,h.tape,h.output,h.size,fun i hi hn=>h.block i hi (fun hm=>hn (hs i hm))⟩
theorem fu.only (h:fu a b)(S:Q Nat):fx S a b:=by
 have hb:=h.below;exact⟨hb.os,hb.tape,hb.output,hb.size,fun k hk _=>hb.block k hk⟩
theorem fx.setCell {S:Q Nat}{a b:U}(h:fx S a b){p:RJ}(hp:p.block∈S)(u:Value):fx S a (b.setCell p u):=
 h.trans ⟨rfl,rfl,rfl,II,fun k _ hn=>UX _ _ _ _ (fun e=>hn (by rw[e];exact hp))⟩
theorem fx.cell {S:Q Nat}{a b:U}(h:fx S a b){g:Nat}(hg:g<a.heap.size)(hn:g∉S)(i:Nat):Rb b ⟨g,i,C⟩=Rb a ⟨g,i,C⟩:=
 World.cell?_of_block (h.block g hg hn)
theorem fx.frozen {S:Q Nat}{a b:U}(h:fx S a b){g:Nat}(hg:g<a.heap.size)(hn:g∉S)(i:Nat):Rx b ⟨g,i,C⟩=Rx a ⟨g,i,C⟩:=
 World.frozen?_of_block (h.block g hg hn)
theorem fx.fy (h:fx S a b)(hg:fu W0 a)(hs:∀ k∈S,W0.heap.size<=k):fu W0 b:=
 fu.jN ⟨h.os.trans hg.below.os,h.tape.trans hg.below.tape,h.output.trans hg.below.output,RG hg.size h.size,fun k hk=>
  (h.block k (Ri hk hg.size) (fun hm=>by have:=hs k hm;omega)).trans (hg.block hk)⟩
structure Ty (α:Type) where
 size:Nat
 R:U->Nat->Q Value->α->Prop
 O:U->Q Value->α->Q Nat->Prop
 lp:∀{w B cs x},R w B cs x->cs.length=size
 jC:∀{w cs x S},O w cs x S->cs.length=size
 lH:∀{w cs x S},O w cs x S->∀ u∈cs,u.oneCell'=M
 ma:∀{w B cs x},R w B cs x->∀ u∈cs,u.oneCell'=M
 iH:∀{w w' B B' cs x},R w B cs x->(∀ k,k<B->w'.heap[k]?=w.heap[k]?)->B<=B'->R w' B' cs x
 gD:∀{w w' cs x S},O w cs x S->(∀ k∈S,w'.heap[k]?=w.heap[k]?)->O w' cs x S
 iY:∀{w cs x S},O w cs x S->∀ k∈S,k<w.heap.size
 OR:∀{w cs x S B},O w cs x S->(∀ k∈S,k<B)->R w B cs x
theorem Ty.fy {α:Type} (T:Ty α){w w':U}{B:Nat}{cs:Q Value}{x:α}(h:T.R w B cs x)(hg:fu w w')(hB:B<=w.heap.size):T.R w' B cs x:=
 T.iH h (fun _ hk=>hg.block K9) (Ru _)
theorem Ty.up {α:Type} (T:Ty α){w w':U}{cs:Q Value}{x:α}(h:T.R w w.heap.size cs x)(hg:fu w w'):T.R w' w'.heap.size cs x:=
 T.iH h (fun _ hk=>hg.block hk) hg.size
theorem Ty.jh {α:Type} (T:Ty α){w w':U}{cs:Q Value}{x:α}{S:Q Nat}(h:T.O w cs x S)(hg:fu w w'):T.O w' cs x S:=
 T.gD h fun _ hk=>hg.block (T.iY h _ hk)
theorem Ty.same {α:Type} (T:Ty α){w w':U}{cs:Q Value}{x:α}{S:Q Nat}{n:Nat}(h:T.O w cs x S)(hL:∀ b∈S,n<=b)(hs:gQ n w.heap.size w w'):T.O w' cs x S:=
 T.gD h fun k hk=>hs k (hL k hk) (T.iY h k hk)
theorem Ty.read {α:Type} (T:Ty α){w:U}{cs:Q Value}{x:α}{S:Q Nat}(h:T.O w cs x S):T.R w w.heap.size cs x:=T.OR h (T.iY h)
def fE (x:Int):Prop:=-9223372036854775808<=x/\x<=9223372036854775807
def zr:Ty Int where
 size:=1
 R:=fun _ _ cs x=>cs = [J Z x]/\-9223372036854775808<=x/\x<=9223372036854775807
 O:=fun _ cs x S=>cs = [J Z x]/\-9223372036854775808<=x/\x<=9223372036854775807/\S = []
 lp:=by rintro _ _ _ _ ⟨rfl,_⟩;rfl
 jC:=by rintro _ _ _ _ ⟨rfl,_⟩;rfl
 lH:=by rintro _ _ _ _ ⟨rfl,_⟩ u hu;simp at hu;subst hu;rfl
 ma:=by rintro _ _ _ _ ⟨rfl,_⟩ u hu;simp at hu;subst hu;rfl
 iH:=by rintro _ _ _ _ _ _ h _ _;exact h
 gD:=by rintro _ _ _ _ _ h _;exact h
 iY:=by rintro _ _ _ _ ⟨_,_,_,rfl⟩ k hk;simp at hk
 OR:=by rintro _ _ _ _ _ ⟨h1,h2,h3,_⟩ _;exact⟨h1,h2,h3⟩
def yJ:Ty Bool where
 size:=1
 R:=fun _ _ cs x=>cs = [H x]
 O:=fun _ cs x S=>cs = [H x]/\S = []
 lp:=by rintro _ _ _ _ rfl;rfl
 jC:=by rintro _ _ _ _ ⟨rfl,_⟩;rfl
 lH:=by rintro _ _ _ _ ⟨rfl,_⟩ u hu;simp at hu;subst hu;rfl
 ma:=by rintro _ _ _ _ rfl u hu;simp at hu;subst hu;rfl
 iH:=by rintro _ _ _ _ _ _ h _ _;exact h
 gD:=by rintro _ _ _ _ _ h _;exact h
 iY:=by rintro _ _ _ _ ⟨_,rfl⟩ k hk;simp at hk
 OR:=by rintro _ _ _ _ _ ⟨h1,_⟩ _;exact h1
def iI:Ty N where
 size:=1
 R:=fun _ _ cs x=>cs = [V x]/\x.size<=9223372036854775807
 O:=fun _ cs x S=>cs = [V x]/\x.size<=9223372036854775807/\S = []
 lp:=by rintro _ _ _ _ ⟨rfl,_⟩;rfl
 jC:=by rintro _ _ _ _ ⟨rfl,_⟩;rfl
 lH:=by rintro _ _ _ _ ⟨rfl,_⟩ u hu;simp at hu;subst hu;rfl
 ma:=by rintro _ _ _ _ ⟨rfl,_⟩ u hu;simp at hu;subst hu;rfl
 iH:=by rintro _ _ _ _ _ _ h _ _;exact h
 gD:=by rintro _ _ _ _ _ h _;exact h
 iY:=by rintro _ _ _ _ ⟨_,_,rfl⟩ k hk;simp at hk
 OR:=by rintro _ _ _ _ _ ⟨h1,h2,_⟩ _;exact⟨h1,h2⟩
def Ty.prod {α β:Type}(T:Ty α)(Q5:Ty β):Ty (α × β) where
 size:=T.size+Q5.size
 R:=fun w B cs x=>∃ c1 c2,cs=c1++c2/\T.R w B c1 x.1/\Q5.R w B c2 x.2
 O:=fun w cs x S=>∃ c1 c2 S1 S2,cs=c1++c2/\S=S1++S2/\T.O w c1 x.1 S1/\Q5.O w c2 x.2 S2
 lp:=by rintro _ _ _ _ ⟨c1,c2,rfl,h1,h2⟩;simp[T.lp h1,Q5.lp h2]
 jC:=by rintro _ _ _ _ ⟨c1,c2,_,_,rfl,_,h1,h2⟩;simp[T.jC h1,Q5.jC h2]
 lH:=by
  rintro _ _ _ _ ⟨c1,c2,_,_,rfl,_,h1,h2⟩ u hu
  rcases Rr.1 hu with hu | hu
  ·exact T.lH h1 u hu
  ·exact Q5.lH h2 u hu
 ma:=by
  rintro _ _ _ _ ⟨c1,c2,rfl,h1,h2⟩ u hu
  rcases Rr.1 hu with hu | hu
  ·exact T.ma h1 u hu
  ·exact Q5.ma h2 u hu
 iH:=by rintro _ _ _ _ _ _ ⟨c1,c2,rfl,h1,h2⟩ hk hB;exact⟨c1,c2,rfl,T.iH h1 hk hB,Q5.iH h2 hk hB⟩
 gD:=by
  rintro _ _ _ _ _ ⟨c1,c2,S1,S2,rfl,rfl,h1,h2⟩ hk
  exact⟨c1,c2,S1,S2,rfl,rfl,T.gD h1 (fun k hk1=>hk k (RH _ hk1)),Q5.gD h2 (fun k hk2=>hk k (RK _ hk2))⟩
 iY:=by
  rintro _ _ _ _ ⟨c1,c2,S1,S2,rfl,rfl,h1,h2⟩ k hk
  rcases Rr.1 hk with hk | hk
  ·exact T.iY h1 k hk
  ·exact Q5.iY h2 k hk
 OR:=by
  rintro _ _ _ _ _ ⟨c1,c2,S1,S2,rfl,rfl,h1,h2⟩ hk
  exact⟨c1,c2,rfl,T.OR h1 (fun k hk1=>hk k (RH _ hk1)),Q5.OR h2 (fun k hk2=>hk k (RK _ hk2))⟩
def Ty.via {α β:Type}(T:Ty α)(f:β->α):Ty β where
 size:=T.size
 R:=fun w B cs x=>T.R w B cs (f x)
 O:=fun w cs x S=>T.O w cs (f x) S
 lp:=T.lp
 jC:=T.jC
 lH:=T.lH
 ma:=T.ma
 iH:=T.iH
 gD:=T.gD
 iY:=T.iY
 OR:=T.OR
def AC {α:Type}(T:Ty α)(w:U):Q Value->Q α->Q Nat->Prop
 | cs,[],S=>cs = []/\S = []
 | cs,x::xs,S=>∃ c1 c2 S1 S2,cs=c1++c2/\S=S1++S2/\T.O w c1 x S1/\AC T w c2 xs S2
section
variable {α:Type} {T:Ty α} {w w':U}
theorem AC.len:∀{xs:Q α}{cs:Q Value}{S:Q Nat},AC T w cs xs S->cs.length=xs.length*T.size
 | [],_,_,h=>by simp[h.1]
 | x::xs,_,_,⟨c1,c2,S1,S2,h1,_,h3,h4⟩=>by
  subst h1;rw[Rh,T.jC h3,AC.len h4,RA,UM,Ur,Uj]
theorem AC.one:∀{xs:Q α}{cs:Q Value}{S:Q Nat},AC T w cs xs S->∀ u∈cs,u.oneCell'=M
 | [],_,_,h=>by simp[h.1]
 | x::xs,_,_,⟨c1,c2,S1,S2,h1,_,h3,h4⟩=>by
  subst h1;intro u hu;rcases Rr.1 hu with hu | hu
  ·exact T.lH h3 u hu
  ·exact AC.one h4 u hu
theorem AC.fJ:∀{xs:Q α}{cs:Q Value}{S:Q Nat},AC T w cs xs S->(∀ k∈S,w'.heap[k]?=w.heap[k]?)->AC T w' cs xs S
 | [],_,_,h,_=>h
 | x::xs,_,_,⟨c1,c2,S1,S2,h1,h2,h3,h4⟩,hk=>by
  subst h2;exact⟨c1,c2,S1,S2,h1,rfl,T.gD h3 (fun k hk1=>hk k (RH _ hk1)),AC.fJ h4 (fun k hk2=>hk k (RK _ hk2))⟩
theorem AC.lt:∀{xs:Q α}{cs:Q Value}{S:Q Nat},AC T w cs xs S->∀ k∈S,k<w.heap.size
 | [],_,_,h=>by simp[h.2]
 | x::xs,_,_,⟨c1,c2,S1,S2,h1,h2,h3,h4⟩=>by
  subst h2;intro k hk;rcases Rr.1 hk with hk | hk
  ·exact T.iY h3 k hk
  ·exact AC.lt h4 k hk
theorem AC.snoc:∀{xs:Q α}{cs:Q Value}{S:Q Nat},AC T w cs xs S->∀{c:Q Value}{x:α}{S':Q Nat},T.O w c x S'->AC T w (cs++c) (xs++[x]) (S++S')
 | [],_,_,h,c,x,S',hx=>by
  obtain⟨rfl,rfl⟩:=h;exact⟨c,[],S',[],II,II,hx,rfl,rfl⟩
 | y::ys,_,_,⟨c1,c2,S1,S2,h1,h2,h3,h4⟩,c,x,S',hx=>by
  subst h1 h2;exact⟨c1,c2++c,S1,S2++S',II,II,h3,AC.snoc h4 hx⟩
theorem AC.WH:∀{xs:Q α}{cs:Q Value}{S:Q Nat},AC T w cs xs S->∀{ys:Q α}{ds:Q Value}{S':Q Nat},AC T w ds ys S'->AC T w (cs++ds) (xs++ys) (S++S')
 | [],_,_,h,ys,ds,S',hy=>by
  obtain⟨rfl,rfl⟩:=h;simpa using hy
 | x::xs,_,_,⟨c1,c2,S1,S2,h1,h2,h3,h4⟩,ys,ds,S',hy=>by
  subst h1 h2;exact⟨c1,c2++ds,S1,S2++S',II,II,h3,AC.WH h4 hy⟩
theorem AC.part:∀{k:Nat}{xs:Q α}{cs:Q Value}{S:Q Nat},AC T w cs xs S->∀{x:α},xs[k]?=D x->
  ∃ a c b Sa Sc Sb,cs=a++(c++b)/\S=Sa++(Sc++Sb)/\a.length=k*T.size/\AC T w a (xs.take k) Sa/\T.O w c x Sc/\AC T w b (xs.drop (k+1)) Sb
 | _,[],_,_,_,x,hx=>by simp at hx
 | 0,y::ys,_,_,⟨c1,c2,S1,S2,h1,h2,h3,h4⟩,x,hx=>by
  simp at hx;subst hx;exact⟨[],c1,c2,[],S1,S2,by simp[h1],by simp[h2],by simp,⟨rfl,rfl⟩,h3,by simpa using h4⟩
 | k+1,y::ys,_,_,⟨c1,c2,S1,S2,h1,h2,h3,h4⟩,x,hx=>by
  obtain⟨a,c,b,Sa,Sc,Sb,e1,e2,e3,ha,hc,hb⟩:=AC.part h4 (k:=k) (x:=x) (by simpa using hx);subst h1 h2 e1 e2;refine⟨c1++a,c,b,S1++Sa,Sc,Sb,by simp,by simp,?_,?_,hc,?_⟩
  ·rw[Rh,T.jC h3,e3,UM,Ur,Uj]
  ·exact⟨c1,a,S1,Sa,rfl,rfl,h3,ha⟩
  ·simpa using hb
theorem AC.join {xs:Q α} {a c b:Q Value} {Sa Sc Sb:Q Nat} {x y:α} (hx:xs[k]?=D x)(ha:AC T w a (xs.take k) Sa)(hc:T.O w c y Sc)(hb:AC T w b (xs.drop (k+1)) Sb) :
  AC T w (a++(c++b)) (xs.set k y) (Sa++(Sc++Sb)):=by
 have hk:k<xs.length:=(Rd.1 hx).1
 have e:xs.set k y=xs.take k++([y]++xs.drop (k+1)):=by
  rw[List.set_eq_take_append_cons_drop,Rs hk];rfl
 rw[e];exact AC.WH ha (AC.WH (show AC T w c [y] Sc from⟨c,[],Sc,[],by simp,by simp,hc,rfl,rfl⟩) hb)
theorem Xq {g:Prop} (f:g:=by
  rw[Sd K9,hl,Nat.add_sub_cancel_left,SK (Rd.1 hu).1]
  exact hu):g:=f
theorem AC.get {xs:Q α} (h:AC T w cs xs S){x:α}(hx:xs[k]?=D x) :
  ∃ c Sc,T.O w c x Sc/\(∀ j∈Sc,j∈S)/\∀ j u,c[j]?=D u->cs[k*T.size+j]?=D u:=by
 obtain⟨a,c,b,Sa,Sc,Sb,rfl,rfl,hl,_,hc,_⟩:=h.part hx;refine⟨c,Sc,hc,fun j hj=>by simp[hj],fun j u hu=>?_⟩;exact Xq
end
def kj:X RJ->Q Nat
 | some a=>[a.block]
 | none=>[]
def Ty.sl {α:Type}(T:Ty α)(e:R5):Ty (Q α) where
 size:=1
 R:=fun w B cs xs=>∃ A c,cs = [G A xs.length c]/\xs.length<=c/\c<=9223372036854775807/\(A=C->c=0)/\
  (0<xs.length->∃ g off,A=D ⟨g,off,C⟩/\g<B/\∀ i x,xs[i]?=D x->∃ ec,T.R w B ec x/\∀ j u,ec[j]?=D u->Rb w ⟨g,off+i*T.size+j,C⟩=D u)
 O:=fun w cs xs S=>∃ A c ecs S',cs = [G A xs.length c]/\w.ownsRow 0 e T.size (G A xs.length c) xs.length ecs/\AC T w ecs xs S'/\S=kj A++S'
 lp:=by rintro _ _ _ _ ⟨A,c,rfl,_⟩;rfl
 jC:=by rintro _ _ _ _ ⟨A,c,_,_,rfl,_⟩;rfl
 lH:=by rintro _ _ _ _ ⟨A,c,_,_,rfl,_⟩ u hu;simp at hu;subst hu;rfl
 ma:=by rintro _ _ _ _ ⟨A,c,rfl,_⟩ u hu;simp at hu;subst hu;rfl
 iH:=by
  rintro w w' B B' cs xs ⟨A,c,rfl,h1,h2,h3,h4⟩ hk hB
  refine⟨A,c,rfl,h1,h2,h3,fun hp=>?_⟩
  obtain⟨g,off,rfl,hg,h5⟩:=h4 hp
  refine⟨g,off,rfl,by omega,fun i x hx=>?_⟩
  obtain⟨ec,h6,h7⟩:=h5 i x hx
  exact⟨ec,T.iH h6 hk hB,fun j u hu=>(World.cell?_of_block (hk g hg)).trans (h7 j u hu)⟩
 gD:=by
  rintro w w' cs xs S ⟨A,c,ecs,S',rfl,h1,h2,rfl⟩ hk
  refine⟨A,c,ecs,S',rfl,?_,AC.fJ h2 (fun k hk'=>hk k (RK _ hk')),rfl⟩
  refine⟨h1.1,?_⟩
  rcases h1.2 with h | ⟨g,cap,cur,hv,hb,hg,rest⟩
  ·exact .inl h
  ·have hv':=hv
   injection hv' with hA _ _
   subst hA
   exact .inr ⟨g,cap,cur,hv,hb,(hk g (by simp[kj])).trans hg,rest⟩
 iY:=by
  rintro w cs xs S ⟨A,c,ecs,S',rfl,h1,h2,rfl⟩ k hk
  rcases Rr.1 hk with hk | hk
  ·cases A with
   | none=>simp[kj] at hk
   | some a=>
    simp[kj] at hk
    exact(h1.lt k (by simp[Tv,hk])).2
  ·exact AC.lt h2 k hk
 OR:=by
  rintro w cs xs S B ⟨A,c,ecs,S',rfl,h1,h2,rfl⟩ hk
  obtain⟨hlen,hrest⟩:=h1
  rcases hrest with⟨hv,hn⟩ | ⟨g,cap,cur,hv,_,hg,hnc,hcm,hcs,htake⟩
  ·injection hv with hA _ hc
   subst hA hc
   exact⟨C,0,rfl,by omega,Rl _,fun _=>rfl,fun hp=>by omega⟩
  ·injection hv with hA _ hc
   subst hA hc
   refine⟨_,_,rfl,hnc,by simpa[maxLen] using hcm,fun h=>by simp at h,fun _=>⟨g,0,rfl,hk g (by simp[kj]),fun i x hx=>?_⟩⟩
   obtain⟨ec,Sc,hO,hS,hget⟩:=AC.get h2 hx
   refine⟨ec,T.OR hO (fun k hk'=>hk k (RK _ (hS k hk'))),fun j u hu=>?_⟩
   rw[Sw w g _ cur e (0,0) hg,RF]
   have hj:=hget j u hu
   rw[<-htake,Tc] at hj
   split at hj
   ·simpa using hj
   ·cases hj
theorem kJ {α:Type} {T:Ty α} {xs:Q α} (h:(T.sl e).R w B [v] xs):∃ A c,v=G A xs.length c/\xs.length<=c/\c<=9223372036854775807:=by
 obtain⟨A,c,h1,h2,h3,_⟩:=h;exact⟨A,c,by simpa using h1,h2,h3⟩
theorem nU {α:Type} {T:Ty α} {xs:Q α} (h:(T.sl e).R w B [G A n c] xs){k:Nat}(hk:k<xs.length) :
  ∃ g off x ec,A=D ⟨g,off,C⟩/\g<B/\xs[k]?=D x/\T.R w B ec x/\∀ j u,ec[j]?=D u->Rb w ⟨g,off+k*T.size+j,C⟩=D u:=by
 obtain⟨A',c',h1,_,_,_,h5⟩:=h;obtain⟨g,off,rfl,hg,h6⟩:=h5 (by omega);injection h1 with h1 _
 injection h1 with h1 _ _
 have hx:xs[k]?=D xs[k]:=Rn hk;obtain⟨ec,h7,h8⟩:=h6 k _ hx;exact⟨g,off,xs[k],ec,h1,hg,hx,h7,h8⟩
theorem lJ {xs:Q Int} (h:(zr.sl e).R w B [G A n c] xs){k:Nat}(hk:k<xs.length) :
  ∃ g off x,A=D ⟨g,off,C⟩/\xs[k]?=D x/\Rb w ⟨g,off+k,C⟩=D (J Z x)/\-9223372036854775808<=x/\x<=9223372036854775807:=by
 obtain⟨g,off,x,ec,h1,_,h2,⟨rfl,b1,b2⟩,h4⟩:=nU h hk;have:=h4 0 _ rfl;simp only[zr,TO,Sr] at this;exact⟨g,off,x,h1,h2,this,b1,b2⟩
theorem wF {xs:Q N} (h:(iI.sl e).R w B [G A n c] xs){k:Nat}(hk:k<xs.length) :
  ∃ g off x,A=D ⟨g,off,C⟩/\xs[k]?=D x/\Rb w ⟨g,off+k,C⟩=D (V x)/\x.size<=9223372036854775807:=by
 obtain⟨g,off,x,ec,h1,_,h2,⟨rfl,b1⟩,h4⟩:=nU h hk;have:=h4 0 _ rfl;simp only[iI,TO,Sr] at this;exact⟨g,off,x,h1,h2,this,b1⟩
theorem zV (hg:w.heap[g]?=D (F cur e (0,0)))(i:Nat)(u:Value):(w.setCell ⟨g,i,C⟩ u).heap[g]?=D (F (cur.setIfInBounds i u) e (0,0)):=by
 simp[R6,UK,hg]
theorem qh {α:Type} {T:Ty α} {xs:Q α} (h:(T.sl e).O w [G A n c] xs S)(hS:S.Nodup){k:Nat}{x:α}(hx:xs[k]?=D x) :
  ∃ g ec Sc,A=D ⟨g,0,C⟩/\g∈S/\g<w.heap.size/\g∉Sc/\(∀ j∈Sc,j∈S)/\Sc.Nodup/\T.O w ec x Sc/\(∀ j,Rx w ⟨g,j,C⟩=I)/\(∀ j u,ec[j]?=D u->Rb w ⟨g,k*T.size+j,C⟩=D u)/\
   (∀ j u y,j<T.size->u.oneCell'=M->T.O w (ec.set j u) y Sc->(T.sl e).O (w.setCell ⟨g,k*T.size+j,C⟩ u) [G A n c] (xs.set k y) S/\fx S w (w.setCell ⟨g,k*T.size+j,C⟩ u))/\
   (∀ w' y,fx Sc w w'->T.O w' ec y Sc->(T.sl e).O w' [G A n c] (xs.set k y) S):=by
 obtain⟨A',c',aj,S',h1,h2,h3,rfl⟩:=h;injection h1 with h1 _
 injection h1 with hA hn hc
 subst hA hn hc;have hk:k<xs.length:=(Rd.1 hx).1;obtain⟨a,ec,b,Sa,Sc,Sb,rfl,rfl,hl,ha,hO,hb⟩:=AC.part h3 hx;obtain⟨a5,a6⟩:=h2;rcases a6 with⟨_,hn⟩ | ⟨g,ai,a3,hv,a2,hg,ae,ab,ac,a1⟩
 ·omega
 ·injection hv with hA _ hc
  subst hA hc;have ad:g<w.heap.size:=(blt hg)
  simp only[kj,List.singleton_append,TX,RM,Rr,not_or] at hS;obtain⟨⟨ag,a8,ah⟩,am,⟨aa,an,a7⟩,af⟩:=hS;have ak:ec.length=T.size:=T.jC hO
  have al:(a++(ec++b)).length<=a3.size:=by
   rw[<-a1,SX];have:a3.toList.length=a3.size:=Sk;omega
  have a4:∀(j:Nat) (u:Value),(a++(ec++b))[j]?=D u->a3[j]?=D u:=by
   intro j u hu;rw[<-a1,Tc] at hu;split at hu
   ·simpa using hu
   ·cases hu
  refine⟨g,ec,Sc,rfl,by simp[kj],ad,a8,fun j hj=>by simp[hj],aa,hO,fun j=>by simp[Rx,hg],fun j u hu=>?_,fun j u y hj h1 hy=>?_,fun w' y ho hy=>?_⟩
  ·rw[Sw w g _ a3 e (0,0) hg]
   apply a4;rw[Sd (by omega),hl,Nat.add_sub_cancel_left,SK (Rd.1 hu).1];exact hu
  ·have a0:∀ i,i≠g->(w.setCell ⟨g,k*T.size+j,C⟩ u).heap[i]?=w.heap[i]?:=fun i hi=>UX w _ u i hi
   refine⟨⟨D ⟨g,0,C⟩,c,a++(ec.set j u++b),_,by rw[RP],⟨?_,.inr ⟨g,c,a3.setIfInBounds (k*T.size+j) u,by rw[RP],a2,zV hg _ _,by simpa using ae,ab,by simpa using ac,?_⟩⟩,AC.join hx (AC.fJ ha ?_) (T.gD hy ?_) (AC.fJ hb ?_),rfl⟩,?_⟩
   ·rw[RP,<-a5]
    simp
   ·rw[RP,Array.toList_setIfInBounds,List.take_set,a1,UL _ _ (by omega),hl,Nat.add_sub_cancel_left,List.set_append_left _ _ (by omega)]
   ·exact fun i hi=>a0 i (fun e=>ag (e ▸ hi))
   ·exact fun i hi=>a0 i (fun e=>a8 (e ▸ hi))
   ·exact fun i hi=>a0 i (fun e=>ah (e ▸ hi))
   ·exact(fx.refl _ _).setCell (by simp[kj]) u
  ·have a9:∀ i,i<w.heap.size->i∉Sc->w'.heap[i]?=w.heap[i]?:=ho.block
   refine⟨D ⟨g,0,C⟩,c,a++(ec++b),_,by rw[RP],⟨by rw[RP,<-a5],.inr ⟨g,c,a3,by rw[RP],a2,(a9 g ad a8).trans hg,by simpa using ae,ab,ac,by rw[RP];exact a1⟩⟩,AC.join hx (AC.fJ ha ?_) hy (AC.fJ hb ?_),rfl⟩
   ·exact fun i hi=>a9 i (AC.lt ha i hi) (fun hc=>af i hi i (.inl hc) rfl)
   ·exact fun i hi=>a9 i (AC.lt hb i hi) (fun hc=>a7 i hc i hi rfl)
theorem KD (w:U)(n:Nat):fu w (w.drewN n):=by
 induction n with
 | zero=>exact fu.refl _
 | succ n ih=>exact ih.drew
theorem fu.drewN {a b:U}(h:fu a b)(n:Nat):fu a (b.drewN n):=h.trans (KD _ _)
theorem wD {α:Type} {xs:Q α} {x:α} (h:xs[k]?=D x):xs.take (k+1)=xs.take k++[x]:=by
 rw[R8,h];rfl
theorem zd {a:RJ} (h:w.cell? a=D v)(os:Array Obj)(d:Nat):(fy w os d).cell? a=D v:=by
 have hb:=R7 w a h;rw[<-h];simp only[Rb,xx os d _ hb]
theorem zo {a:RJ} (h:w.cell? a=D v)(o:Obj):(w.alloc o).cell? a=D v:=by
 rw[Ep];exact zd h _ _
theorem zc {a:RJ} (h:w.cell? a=D v):w.drew.cell? a=D v:=h
def fU {α:Type}(T:Ty α)(w w':U)(cs:Q Value)(x:α):Prop:=∃ S,T.O w' cs x S/\S.Nodup/\∀ b∈S,w.heap.size<=b
theorem fU.fy {α:Type} {T:Ty α} {x:α} (h:fU T w w1 cs x)(hg:fu w1 w2):fU T w w2 cs x:=by
 obtain⟨S,h1,h2,h3⟩:=h;exact⟨S,T.jh h1 hg,h2,h3⟩
theorem fU.read {α:Type}{T:Ty α}{w w1:U}{cs:Q Value}{x:α}(h:fU T w w1 cs x):T.R w1 w1.heap.size cs x:=by
 obtain⟨S,h1,_,_⟩:=h;exact T.read h1
def kC {α:Type}(T:Ty α)(W0:U)(hi:Nat)(W:U)(cs:Q Value)(x:α):Prop:=∃ S,T.O W cs x S/\S.Nodup/\∀ b∈S,W0.heap.size<=b/\b<hi
theorem fU.mW {α:Type} {T:Ty α} {x:α} (h:fU T w w1 cs x):kC T w w1.heap.size w1 cs x:=by
 obtain⟨S,h1,h2,h3⟩:=h;exact⟨S,h1,h2,fun b hb=>⟨h3 b hb,T.iY h1 b hb⟩⟩
theorem kC.fresh {α:Type} {T:Ty α} {x:α} (h:kC T w hi w1 cs x):fU T w w1 cs x:=by
 obtain⟨S,h1,h2,h3⟩:=h;exact⟨S,h1,h2,fun b hb=>(h3 b hb).1⟩
theorem kC.same {α:Type} {T:Ty α} {x:α} (h:kC T w hi w1 cs x)(hs:gQ w.heap.size hi w1 w2):kC T w hi w2 cs x:=by
 obtain⟨S,h1,h2,h3⟩:=h;exact⟨S,T.gD h1 (fun k hk=>hs k (h3 k hk).1 (h3 k hk).2),h2,h3⟩
theorem kC.fy {α:Type} {T:Ty α} {x:α} (h:kC T w hi w1 cs x)(hg:fu w1 w2):kC T w hi w2 cs x:=by
 obtain⟨S,h1,h2,h3⟩:=h;exact⟨S,T.jh h1 hg,h2,h3⟩
theorem kC.up {α:Type} {T:Ty α} {hi':Nat} {x:α} (h:kC T w hi w1 cs x)(hh:hi<=hi'):kC T w hi' w1 cs x:=by
 obtain⟨S,h1,h2,h3⟩:=h;exact⟨S,h1,h2,fun b hb=>⟨(h3 b hb).1,Ri (h3 b hb).2 hh⟩⟩
theorem kC.read {α:Type}{T:Ty α}{w w1:U}{hi:Nat}{cs:Q Value}{x:α}(h:kC T w hi w1 cs x):T.R w1 w1.heap.size cs x:=h.fresh.read
def oK {α:Type}(T:Ty α)(W0:U)(hi n:Nat)(W:U)(cs:Q Value)(x:α):Prop:=∃ S,T.O W cs x S/\S.Nodup/\∀ b∈S,(W0.heap.size<=b/\b<hi)∨n<=b
theorem oK.fresh {α:Type} {T:Ty α} {x:α} (h:oK T w hi n w1 cs x)(hn:w.heap.size<=n):fU T w w1 cs x:=by
 obtain⟨S,h1,h2,h3⟩:=h;exact⟨S,h1,h2,fun b hb=>by have:=h3 b hb;omega⟩
theorem oK.same {α:Type} {T:Ty α} {x:α} (h:oK T w hi n w1 cs x)(hs:gQ w.heap.size hi w1 w2)(ht:gQ n w1.heap.size w1 w2):oK T w hi n w2 cs x:=by
 obtain⟨S,h1,h2,h3⟩:=h;refine⟨S,T.gD h1 (fun k hk=>?_),h2,h3⟩;rcases h3 k hk with h | h
 ·exact hs k h.1 h.2
 ·exact ht k h (T.iY h1 k hk)
theorem oK.mW {α:Type}{T:Ty α}{w w1:U}{hi n:Nat}{cs:Q Value}{x:α}(h:oK T w hi n w1 cs x)(hn:w.heap.size<=n):kC T w w1.heap.size w1 cs x:=(h.fresh hn).mW
theorem qi {α:Type} {T:Ty α} {xs:Q α} (hg:w.heap[g]?=D (F cur e (0,0)))(hr:AC T w cur.toList xs S)(hm:xs.length<=9223372036854775807) :
  (T.sl e).O w [G (D ⟨g,0,C⟩) xs.length xs.length] xs (g::S):=by
 have hl:=hr.len;rw[Sk] at hl;refine⟨_,_,cur.toList,S,rfl,⟨by rw[Sk];exact hl,.inr ⟨g,xs.length,cur,rfl,Rl _,hg,Ru _,by simpa[maxLen] using hm,hl,?_⟩⟩,hr,rfl⟩;rw[SR];rw[Sk];omega
theorem Ec (t e:R5)(i:TypeInfo)(z:Value)(ht:P.underlying t=D (.slice e))(hi:P.info? e=D i)(hz:i.zero=D z)
  (kl kc:IntKind) (n c:Nat) (hnc:n<=c) (hbytes:i.bytes*c<=281474976710656) (h63:c<=9223372036854775807) (w:U) :
  (Instr.makeSlice t (J kl (n:Int)) (J kc (c:Int))).run P w=.ok (G (D ⟨w.heap.size,0,C⟩) n c) (w.alloc (F (SM z.cells (c*i.size)) e)):=by
 have hb:(i.bytes:Int)*(c:Int)<=281474976710656:=by
  have h:((i.bytes*c:Nat):Int)<=281474976710656:=K9;rwa [Int.natCast_mul] at h
 have hr:=run_make (P:=P) w t e i z ht hi hz kl kc n c K9 K9 hb K9;simp only[Ry] at hr;exact hr
theorem Fy {x y:N}:x.toList=y.toList↔x=y:=by
 rw[Ux,Ux];constructor
 ·intro h
  cases x;cases y;simpa using h
 ·rintro rfl
  rfl
theorem lC (x y:N):(x.toList == y.toList)=decide (x=y):=by
 rw[UP];simp only[RQ,Fy,RC]
theorem Qf {α:Type} {T:Ty α} {xs:Q α} (h:(T.sl e).R w B [G A n c] xs)(hk:k<=n) :
  (T.sl e).R w B [G A k c] (xs.take k):=by
 obtain⟨A',c',h1,h2,h3,h4,h5⟩:=h;injection h1 with h1 _
 injection h1 with hA hn hc
 subst hA hn hc;have hl:(xs.take k).length=k:=by rw[SX];omega
 refine⟨A,c,by rw[hl],by rw[hl];omega,h3,h4,fun hp=>?_⟩;rw[hl] at hp;obtain⟨g,a0,rfl,hg,h6⟩:=h5 (by omega);refine⟨g,a0,rfl,hg,fun i x hx=>?_⟩;rw[Tc] at hx;split at hx
 ·exact h6 i x hx
 ·cases hx
theorem QJ {Q9 Y:Nat} (_:∀ b∈S,Q9<=b)(h:∀ b∈S',Y<=b)(hxy:Q9<=Y):∀ b∈S',Q9<=b:=fun b hb=>RG hxy (h b hb)
theorem JA {A B:Q Nat} (h:(A++B).Nodup):A.Nodup/\B.Nodup/\(∀ k∈A,k∉B)/\(∀ k∈B,k∉A):=by
 rw[RM] at h;exact⟨h.1,h.2.1,fun k ha hb=>h.2.2 k ha k hb rfl,fun k hb ha=>h.2.2 k ha k hb rfl⟩
theorem gG (h:fu a b:=by repeat with_reducible first | exact .refl _ | exact .lq _ _ _ | exact .kt _ _ _ _ | assumption | apply fu.more | apply fu.alloc | apply fu.drew | apply fu.drewN):fu a b:=h
theorem gF (h:fu a b:=by(repeat with_reducible first | exact .refl _ | exact .lq _ _ _ | exact .kt _ _ _ _ | assumption | apply fu.more | apply fu.alloc | apply fu.drew | apply fu.drewN);done):fu a b:=h
open Go.RowKit Go.WideShapes Go.ChangeShapes
def BE (P:Program)(t:R5){α:Type}(T:Ty α):Prop:=
 ∀(Q6:Type) (enc:R5 × Value->Q6) (W:U) (spare:Nat->Bool) (held:Bool) (fuel:Nat) (cs:Q Value) (x:DataW Q6 × Q MemPlace),
  DataW.trod enc P W 0 spare held fuel t cs=D x->∃ a,T.R W W.heap.size cs a
section
variable {P:Program} {t:R5}
theorem Pj {α:Type} {T:Ty α} (ht:P.underlying t=D (.slice e))(hs:P.cellsOf e=T.size)(h0:0<T.size)(he:BE P e T):BE P t (T.sl e'):=by
 intro Q6 ao W ab aj ae cs x h;rcases Go.Deep.open_slice ht h with⟨rfl,_⟩ | ⟨a,len,ac,m,n,QX,Pl,rfl,_,hl,hc,hm,_,hi⟩
 ·exact⟨[],C,0,rfl,Ru _,Rl _,fun _=>rfl,fun hp=>by simp at hp⟩
 ·have ap:len<=m:=by rw[hm];split <;> omega
  have ai:∀ n',n'<=len->∃ xs:Q α,xs.length=n'/\∀ i y,xs[i]?=D y->∃ ec,T.R W W.heap.size ec y/\∀(j:Nat) (u:Value),ec[j]?=D u->W.cell? ((a.add (i*T.size)).add j)=D u:=by
   intro n';induction n' with
   | zero=>exact fun _=>⟨[],rfl,fun i y hy=>by simp at hy⟩
   | succ n' ih=>
    intro hn;obtain⟨xs,a4,a5⟩:=ih K9;obtain⟨ec,ah,an⟩:=hi n' K9;obtain⟨y,hy⟩:=he _ _ _ _ _ _ _ _ an;refine⟨xs++[y],by simp[a4],fun i z hz=>?_⟩;rw[List.getElem?_append] at hz;split at hz
    ·exact a5 i z hz
    ·rename_i hnl
     have al:=(Rd.1 hz).1;simp at al;have ak:i=n':=K9;subst ak;rw[a4,St] at hz;simp at hz;subst hz;refine⟨ec,hy,fun j u hu=>?_⟩;obtain⟨_,a7,a9⟩:=World.cells?_some ah;rw[hs] at a9 a7;rw[a9 j (by have:=(Rd.1 hu).1;omega),hu]
  obtain⟨xs,a4,a5⟩:=ai len (Ru _);subst a4;refine⟨xs,D a,ac,rfl,hl,by simpa[maxLen] using hc,fun h=>by simp at h,fun hp=>?_⟩;obtain⟨ec,hR,a1⟩:=a5 0 xs[0] (Rn hp);have a6:0<ec.length:=by rw[T.lp hR];exact h0
  have af:=a1 0 ec[0] (Rn a6);obtain⟨g,aa,a3⟩:=a;have a8:Rb W ⟨g,aa,a3⟩=D ec[0]:=by simpa[Addr.add] using af
  have a2:a3=C:=World.cell?_spot a8;subst a2;have am:=R7 W _ a8;refine⟨g,aa,rfl,am,fun i y hy=>?_⟩;obtain⟨ad,ag,a0⟩:=a5 i y hy;refine⟨ad,ag,fun j u hu=>?_⟩;have:=a0 j u hu;rw[Uk,Uk] at this;exact this
theorem OP {Q6:Type} {enc:R5 × Value->Q6} {spare:Nat->Bool} {held:Bool} {d:DataW Q6} {p:Q MemPlace} {α:Type} {T:Ty α} (ho:BE P t T)(h:DataW.Trod enc P W 0 spare held t v d p):∃ a,T.R W W.heap.size v.cells.toList a:=by
 obtain⟨a0,hf⟩:=h;exact ho _ _ _ _ _ _ _ _ hf
theorem MT {r:Reach} {b0:Nat} (ht:P.underlying t=D (.slice e))(hv:Value.okWide P W r b0 t v):v.cells.toList = [v]:=by
 obtain⟨a,l,c,rfl⟩:=okWide_slice ht hv;rfl
end
def fP (x a b:Int):Bool:=decide (a<=x) && decide (x<=b)
theorem zu {a b:Int}:fP x a b=M↔a<=x/\x<=b:=by simp[fP]
theorem oz {a b:Int} (h1:a<=x)(h2:x<=b):fP x a b=M:=zu.2 ⟨h1,h2⟩
theorem qC {n:Int} (h1 : -9223372036854775808<=n)(h2:n<=9223372036854775807):SN n=n:=IntWalk.wrap64_in n ⟨h1,h2⟩
theorem zp {a b:Bool} (h:a=b):Tq (H a)=.returned (H b):=by rw[h]
theorem nV {a b:Int} (h:a=b):Tq (J Z a)=.returned (J Z b):=by rw[h]
theorem It (x a b:Int)(h:a<=x):decide (x<=b)=fP x a b:=by simp[fP,h]
theorem Iu (x a b:Int)(h:x<a):I=fP x a b:=by simp[fP];omega
theorem lW (x a b:Int)(w:U):RD prog 38 #[J Z x,J Z a,J Z b] w fun e w'=>e=.returned (H (fP x a b))/\w=w':=by
 go_enter func38,ntmps38;go_wp2
 ·go_ret
  exact⟨zp (It x a b ‹_›),rfl⟩
 ·go_ret
  exact⟨zp (Iu x a b ‹_›),rfl⟩
theorem gW (x a b:Int)(w:U):RD prog 43 #[J Z x,J Z a,J Z b] w fun e w'=>e=.returned (H (fP x a b))/\w=w':=by
 go_enter func43,ntmps43;go_wp2
 ·go_ret
  exact⟨zp (It x a b ‹_›),rfl⟩
 ·go_ret
  exact⟨zp (Iu x a b ‹_›),rfl⟩
theorem CG {f:FuncId} {args:Array Value}
  (h:RD P f args (w.drewN n) fun e w'=>e=.returned v/\w.drewN n=w'):RD P f args (w.drewN n) fun e w''=>e=.returned v/\∃ m,w''=w.drewN m:=
 h.mono fun _ _ ⟨he,hm⟩=>⟨he,n,hm.symm⟩
theorem Jn {a b:Int} {v:Bool} (h:fP x a b=v)(w:U)(n:Nat):RD prog 38 #[J Z x,J Z a,J Z b] (w.drewN n) fun e w''=>e=.returned (H v)/\∃ m,w''=w.drewN m:=by
 subst h;exact CG (lW _ _ _ _)
theorem wH {a b:Int} {v:Bool} (h:fP x a b=v)(w:U)(n:Nat):RD prog 43 #[J Z x,J Z a,J Z b] (w.drewN n) fun e w''=>e=.returned (H v)/\∃ m,w''=w.drewN m:=by
 subst h;exact CG (gW _ _ _ _)
structure hU (P:Program)(t e:R5){α:Type}(T:Ty α)(Ti:Nat):Prop where
 ht:P.underlying t=D (.slice e)
 Xv:∃ i z,P.info? e=D i/\i.zero=D z/\i.size=T.size/\i.bytes=Ti/\z.cells.size=T.size
 pos:0<T.size
theorem Ps {t:R5} {α:Type} {T:Ty α} {Ti:Nat} (hE:hU P t e T Ti){w:U}{B:Nat}{A:X RJ}{n c k:Nat}{xs:Q α}(h:(T.sl e').R w B [G A n c] xs)(hk:k<=n) :
  (∀ W,(Instr.sliceAt t (G A n c) C (D (J Z (k:Int))) C).run P W=.ok (G A k c) W)/\(T.sl e').R w B [G A k c] (xs.take k):=by
 refine⟨fun W=>?_,Qf h hk⟩;obtain⟨i,z,hi,hz,a0,a1,a3⟩:=hE.Xv
 have a2:n<=c/\(A=C->c=0):=by
  obtain⟨A',c',h1,h2,_,h4,_⟩:=h;injection h1 with h1 _
  injection h1 with hA hn hc
  subst hA hn hc;exact⟨h2,h4⟩
 have hA:A.map (fun a=>a.add 0)=A:=by cases A <;> simp[Addr.add]
 simp[Instr.sliceAt,Instr.slice,Instr.sliceBounds,Instr.sliceBound,asIntOf,run_underlying hE.ht,sizeOf,typeInfo,hi,hA];intro h;omega
def kB {α:Type}(T:Ty α):Prop:=∀{w B cs x},T.R w B cs x->∀ w',T.O w' cs x []
theorem zE:kB zr:=fun h _=>⟨h.1,h.2.1,h.2.2,rfl⟩
theorem Gt:kB yJ:=fun h _=>⟨h,rfl⟩
theorem lA:kB iI:=fun h _=>⟨h.1,h.2,rfl⟩
theorem oS {α β:Type} {T:Ty α} {Q5:Ty β} (h:kB T)(k:kB Q5):kB (T.prod Q5):=fun⟨c1,c2,h1,h2,h3⟩ w'=>⟨c1,c2,[],[],h1,rfl,h h2 w',k h3 w'⟩
theorem xt {α β:Type} {T:Ty α} (f:β->α)(h:kB T):kB (T.via f):=fun h1 w'=>h h1 w'
section
variable {α:Type} {T:Ty α} {e:R5}
theorem AJ (W0 W:U):fU (T.sl e) W0 W [G C 0 0] []:=
 ⟨[],⟨C,0,[],[],rfl,World.ownsRow_nil W 0 e T.size,⟨rfl,rfl⟩,rfl⟩,II,II⟩
theorem wj (hg:fu W0 W){g:Nat}(hgW:g=W.heap.size):fU (T.sl e) W0 (W.alloc (F #[] e)) [G (D ⟨g,0,C⟩) 0 0] []:=by
 subst hgW;refine⟨[W.heap.size],⟨_,0,[],[],rfl,?_,⟨rfl,rfl⟩,by simp[kj]⟩,II,fun b hb=>?_⟩
 ·exact World.ownsRow_made W #[] 0 (Rl _) (Rl _) II
 ·simp at hb
  subst hb;exact hg.size
theorem Eo {Q9:U} (hg:fu (Q9.alloc (F #[] e)) W)(h0:fu W0 Q9){g:Nat}(hgW:g=Q9.heap.size):fU (T.sl e) W0 W [G (D ⟨g,0,C⟩) 0 0] []:=
 (wj h0 hgW).fy hg
theorem Ca (hf:kB T){w w':U}{B g off:Nat}:∀(xs:Q α)(k:Nat),(∀ i x,xs[i]?=D x->∃ ec,T.R w B ec x/\∀(j:Nat)(u:Value),ec[j]?=D u->Rb w ⟨g,off+(k+i)*T.size+j,C⟩=D u)->
  ∃ cs,AC T w' cs xs []/\cs.length=xs.length*T.size/\∀(j:Nat) (u:Value),cs[j]?=D u->Rb w ⟨g,off+k*T.size+j,C⟩=D u
 | [],k,_=>⟨[],⟨rfl,rfl⟩,by simp,fun j u hu=>by simp at hu⟩
 | x::xs,k,h=>by
  obtain⟨ec,hR,hc⟩:=h 0 x rfl
  obtain⟨cs,h1,h2,h3⟩:=Ca hf xs (k+1) (fun i y hy=>by
   obtain⟨a0,a1,a2⟩:=h (i+1) y (by simpa using hy)
   exact⟨a0,a1,fun j u hu=>by have:=a2 j u hu;rw[show k+(i+1)=k+1+i from by omega] at this;exact this⟩)
  have hl:=T.lp hR;refine⟨ec++cs,⟨ec,cs,[],[],rfl,rfl,hf hR _,h1⟩,by rw[Rh,hl,h2,RA,UM,Ur,Uj],fun j u hu=>?_⟩;rw[List.getElem?_append] at hu;split at hu
  ·exact hc j u hu
  ·rename_i hj
   have:=h3 _ u hu;rw[UM,Ur] at this;rw[hl] at hj;rw[hl] at this;rw[show off+k*T.size+j=off+(k*T.size+T.size)+(j-T.size) from by omega];exact this
section
variable {P:Program} {t ty:R5} {Ti:Nat}
theorem uF {g:Prop} (f:g:=by
  refine⟨by cases A' <;> simp[kj],RM.2 ⟨hN2,hSy,fun a ha b hb heq=>hd a (RK _ ha) (heq ▸ hb)⟩,fun a ha b hb heq=>?_⟩
  subst heq
  rcases hA' a ha with h | h
  ·rcases Rr.1 hb with hb | hb
   ·exact hN3 a h a hb rfl
   ·exact hd a (RH _ h) hb
  ·subst h
   rcases Rr.1 hb with hb | hb
   ·exact absurd (hrow.lt _ hb) (Uo _)
   ·exact absurd (hr.lt _ hb) (Uo _)):g:=f
theorem uO {g:Prop} (f:g:=by
  rcases hown.2 with⟨rfl,h0⟩ | ⟨g,cap,cur,rfl,_⟩
  ·exact⟨C,0,by rw[h0],by simp[kj]⟩
  ·refine⟨_,cap,rfl,fun b hb=>?_⟩
   simp[kj] at hb
   subst hb
   rcases hat with h | h
   ·left
    cases A with
    | none=>simp[Tv] at h
    | some a=>simp[Tv] at h;simp[kj,h]
   ·right
    simpa[Tv] using h):g:=f
theorem BS (hE:hU P t e T Ti){W0 W:U}{hi0:Nat}{A:X RJ}{n c:Nat}{xs:Q α}(h:kC (T.sl e) W0 hi0 W [G A n c] xs)
  {ad:RJ} {m c':Nat} {ys:Q α} {news:Q Value} {Sy:Q Nat} (hr:AC T W news ys Sy) (hm:m=ys.length) (hcell:∀ j u,news[j]?=D u->W.cell? (ad.add j)=D u)
  (hSy:Sy.Nodup) {m0:Nat} (hm0:m0<=W.heap.size) (hSy0:∀ b∈Sy,W0.heap.size<=b/\hi0<=b/\m0<=b)
  {L:Nat} (hL:L=n+m) (hb:L*Ti<=140737488355328) (h63:L<=9223372036854775807) :
  ∃ A' c'' W',(Tk #[t,t] ty #[G A n c,G (D ad) m c']).run P W=.ok (G A' L c'') W'/\(∃ row,W.grownBy W' row/\∀ k,row=D k->W0.heap.size<=k/\k<hi0)/\oK (T.sl e) W0 hi0 m0 W' [G A' L c''] (xs++ys):=by
 subst hL;obtain⟨S,hO,hN,a0⟩:=h;have ag:∀ b∈S,W0.heap.size<=b:=fun b hb=>(a0 b hb).1;have hd:∀ b∈S,b∉Sy:=fun b hb hm=>by have h1:=(a0 b hb).2;have h2:=(hSy0 b hm).2.1;omega
 obtain⟨A1,c1,a6,S',hv,ab,hrow,rfl⟩:=hO;injection hv with hv _
 injection hv with hA hn hc
 subst hA hc;have a8:n=xs.length:=hn;obtain⟨i,z,hi,hz,a5,aa,ae⟩:=hE.Xv;have a7:news.length=m*T.size:=by rw[hr.len,hm]
 obtain⟨v',W',a9,hown,a1,_,hat⟩:=run_append_own_at (P:=P) W 0 t ty e i z T.size Ti hE.ht hi hz a5 aa ae hE.pos (G A xs.length c) xs.length a6 ab ad m c' news a7 hcell hr.one
  (by rw[<-a8];simpa[maxLen] using h63) (by rw[<-a8];exact hb) (Rl _)
 subst a8
 have hG:∃ row,W.grownBy W' row/\∀ k,row=D k->W0.heap.size<=k/\k<hi0:=⟨_,a1,fun k hk=>by
  cases A with
  | none=>simp[Tv] at hk
  | some a=>
   simp[Tv] at hk
   exact a0 k (by simp[kj,hk])⟩
 -- the elements' own blocks have not turned
 have a2:∀ k,k<W.heap.size->(∀ b∈kj A,k≠b)->W'.heap[k]?=W.heap[k]?:=fun k hk hne=>a1.block k hk (by
  cases A with
  | none=>simp[Tv]
  | some a=>simpa[Tv,kj] using hne)
 rw[RM] at hN;obtain⟨af,hN2,hN3⟩:=hN;have a4:AC T W' a6 xs S':=hrow.fJ (fun k hk=>a2 k (hrow.lt k hk) (fun b hb=>(hN3 b hb k hk).symm));have ac:AC T W' news ys Sy:=hr.fJ (fun k hk=>a2 k (hr.lt k hk) (fun b hb heq=>hd b (RH _ hb) (heq ▸ hk)))
 have a3:∃ A' c'',v'=G A' (xs.length+m) c''/\∀ b∈kj A',b∈kj A∨b=W.heap.size:=by
  exact uO
 obtain⟨A',c'',rfl,hA'⟩:=a3;refine⟨A',c'',W',a9,hG,kj A'++(S'++Sy),⟨A',c'',a6++news,S'++Sy,by rw[Rh,hm],by rw[Rh,<-hm];exact hown,a4.WH ac,rfl⟩,?_,?_⟩
 ·rw[RM]
  exact uF
 ·intro b hb
  rcases Rr.1 hb with hb | hb
  ·rcases hA' b hb with h | h
   ·exact .inl (a0 b (RH _ h))
   ·rw[h];exact .inr hm0
  ·rcases Rr.1 hb with hb | hb
   ·exact .inl (a0 b (RK _ hb))
   ·exact .inr (hSy0 b hb).2.2
theorem DR (hE:hU P t e T Ti){W0 W:U}{A:X RJ}{n c:Nat}{xs:Q α}(h:fU (T.sl e) W0 W [G A n c] xs)(c':Nat) :
  (Tk #[t,t] ty #[G A n c,G C 0 c']).run P W=.ok (G A n c) W:=by
 obtain⟨S,hO,hN,a7⟩:=h;obtain⟨A1,c1,a6,S',hv,a2,a3,rfl⟩:=hO;injection hv with hv _
 injection hv with hA hn hc
 subst hA hc hn;obtain⟨i,z,hi,hz,a0,a8,a9⟩:=hE.Xv;rcases a2.2 with⟨hv,h0⟩ | ⟨g,a4,a5,hv,_,_,a1,_⟩
 ·rw[hv]
  simp[Tk,run_underlying hE.ht,sizeOf,typeInfo,hi,Builtin.lenOf,Builtin.firstCells]
 ·rw[hv]
  simp[Tk,run_underlying hE.ht,sizeOf,typeInfo,hi,Builtin.lenOf,Builtin.firstCells,a1,storeCells]
theorem JM (hE:hU P t e T Ti)(hf:kB T){W0 W:U}{hi0 m0:Nat}(hm0:m0<=W.heap.size){A:X RJ}{n c:Nat}{xs:Q α}(h:kC (T.sl e) W0 hi0 W [G A n c] xs)
  {B:Nat} {e':R5} {A2:X RJ} {m c2:Nat} {ys:Q α} (hy:(T.sl e').R W B [G A2 m c2] ys)
  {L:Nat} (hL:L=n+m) (hb:L*Ti<=140737488355328) (h63:L<=9223372036854775807) :
  ∃ A' c'' W',(Tk #[t,t] ty #[G A n c,G A2 m c2]).run P W=.ok (G A' L c'') W'/\(∃ row,W.grownBy W' row/\∀ k,row=D k->W0.heap.size<=k/\k<hi0)/\oK (T.sl e) W0 hi0 m0 W' [G A' L c''] (xs++ys):=by
 obtain⟨A3,c3,hv,h1,h2,h3,h4⟩:=hy;injection hv with hv _
 injection hv with hA hn hc
 subst hA hn hc;rcases UA ys.length with h0 | h0
 ·have a1:ys = []:=Uh h0
  subst a1;subst hL;cases A2 with
  | none=>exact⟨A,c,W,DR hE h.fresh _,⟨C,World.grownBy.refl W C,fun k hk=>by simp at hk⟩,by
    obtain⟨S,h1,h2,h3⟩:=h
    exact⟨S,by simpa using h1,h2,fun b hb=>.inl (h3 b hb)⟩⟩
  | some ad=>
   exact BS hE h (ad:=ad) (m:=0) (news:=[]) (ys:=[]) (Sy:=[]) ⟨rfl,rfl⟩ rfl (fun j u hu=>by simp at hu) (by simp) hm0 (by simp) rfl hb h63
 ·obtain⟨g,off,rfl,a2,h5⟩:=h4 h0
  obtain⟨cs,hr,hl,hc⟩:=Ca (w':=W) hf (g:=g) (off:=off) ys 0 (fun i x hx=>by
   obtain⟨ec,hR,a0⟩:=h5 i x hx
   exact⟨ec,hR,fun j u hu=>by rw[RF];exact a0 j u hu⟩)
  exact BS hE h (ad:=⟨g,off,C⟩) hr rfl (fun j u hu=>by rw[Uk];simpa using hc j u hu) (by simp) hm0 (by simp) hL hb h63
end
section
variable {P:Program} {t:R5} {Ti:Nat} {ops:Array Oper} {rest:Q Oper} {o:Oper} {a:Act} {Q8:Exit->Act->U->Prop} {K:Act->U->Prop}
theorem wW {v2 v':Value} {W':U} (s x:Operand)(ho:o.op=.call { callee:=.builtin .append,args:=#[s,x],argTypes:=#[t,t] })(hs:a.eval s=G A n c)(hx:a.eval x=v2)
  (hrun:(Tk #[t,t] o.type #[G A n c,v2]).run P W=.ok v' W') (h:K (a.put o.dst v') W'):o.wp P a W K Q8:=by
 unfold Oper.wp execOp;simp only[ho,resolve,invoke,builtin,Sem.run_bind,Sem.run_pure,Result.andThen_ok,List.map_toArray,Sz,List.map_nil,hs,hx,hrun];exact h
theorem vM {g:Prop} (f:g:=by
  obtain⟨os,d,rfl⟩:=hg.grown hgr (fun k hk=>(hrow k hk).1)
  exact wW s x ho hs hx hrun (hKK _ _ (hK A' c'' os d (hF.fresh (Ru _))))):g:=f
theorem yU (hgd:o.guard=C)(s x:Operand)(hE:hU P t e T Ti)(hf:kB T){W0 W:U}{A:X RJ}{n c:Nat}{xs:Q α}(h:fU (T.sl e) W0 W [G A n c] xs)(hg:fu W0 W)
  {B:Nat} {e':R5} {A2:X RJ} {m c2:Nat} {ys:Q α} (hy:(T.sl e').R W B [G A2 m c2] ys)
  (ho:o.op=.call { callee:=.builtin .append,args:=#[s,x],argTypes:=#[t,t] }) (hs:a.eval s=G A n c) (hx:a.eval x=G A2 m c2)
  {L:Nat} (hL:L=n+m) (hb:L*Ti<=140737488355328) (h63:L<=9223372036854775807)
  (hK:∀ A' c'' os d,fU (T.sl e) W0 (fy W0 os d) [G A' L c''] (xs++ys)->wpList P ops Q8 rest (a.put o.dst (G A' L c'')) (fy W0 os d)):wpList P ops Q8 (o::rest) a W:=
 US hgd fun K hKK=>by
  obtain⟨A',c'',W',hrun,⟨row,hgr,hrow⟩,hF⟩:=JM (P:=P) (ty:=o.type) hE hf hg.size h.mW hy hL hb h63;exact vM
theorem JP (hE:hU P t e T Ti){W0 W We:U}{ty:R5}{hi0 g cc m0:Nat}(hm0:m0<=W.heap.size)(hm1:m0<=We.heap.size){A:X RJ}{n c:Nat}{xs:Q α}(h:kC (T.sl e) W0 hi0 W [G A n c] xs)
  {ec:Q Value} {y:α} (hy:fU T We W ec y) (hhi:hi0<=We.heap.size) (hWe:W0.heap.size<=We.heap.size) (hcell:∀(j:Nat) (u:Value),ec[j]?=D u->Rb W ⟨g,j,C⟩=D u)
  {L:Nat} (hL:L=n+1) (hb:L*Ti<=140737488355328) (h63:L<=9223372036854775807) :
  ∃ A' c'' W',(Tk #[t,t] ty #[G A n c,G (D ⟨g,0,C⟩) 1 cc]).run P W=.ok (G A' L c'') W'/\(∃ row,W.grownBy W' row/\∀ k,row=D k->W0.heap.size<=k/\k<hi0)/\oK (T.sl e) W0 hi0 m0 W' [G A' L c''] (xs++[y]):=by
 obtain⟨Sy,hO,a1,a0⟩:=hy
 exact BS (P:=P) (ty:=ty) hE h (ad:=⟨g,0,C⟩) (m:=1) (c':=cc) (ys:=[y]) (news:=ec) (Sy:=Sy)
   ⟨ec,[],Sy,[],II,II,hO,rfl,rfl⟩ rfl
   (fun j u hu=>by rw[Uk,RF];exact hcell j u hu) a1 hm0 (fun b hb=>⟨RG hWe (a0 b hb),RG hhi (a0 b hb),RG hm1 (a0 b hb)⟩)
   hL hb h63
theorem JI (hgd:o.guard=C)(s x:Operand)(hE:hU P t e T Ti){W0 W We:U}{hi0 g cc:Nat}{A:X RJ}{n c:Nat}{xs:Q α}(h:kC (T.sl e) W0 hi0 W [G A n c] xs)(hg:fu W0 W)
  {ec:Q Value} {y:α} (hy:fU T We W ec y) (hhi:hi0<=We.heap.size) (hWe:W0.heap.size<=We.heap.size)
  (ho:o.op=.call { callee:=.builtin .append,args:=#[s,x],argTypes:=#[t,t] }) (hs:a.eval s=G A n c) (hx:a.eval x=G (D ⟨g,0,C⟩) 1 cc)
  (hcell:∀(j:Nat) (u:Value),ec[j]?=D u->Rb W ⟨g,j,C⟩=D u)
  {L:Nat} (hL:L=n+1) (hb:L*Ti<=140737488355328) (h63:L<=9223372036854775807)
  (hK:∀ A' c'' os d,fU (T.sl e) W0 (fy W0 os d) [G A' L c''] (xs++[y])->wpList P ops Q8 rest (a.put o.dst (G A' L c'')) (fy W0 os d)):wpList P ops Q8 (o::rest) a W:=
 US hgd fun K hKK=>by
  obtain⟨A',c'',W',hrun,⟨row,hgr,hrow⟩,hF⟩:=JP (P:=P) (ty:=o.type) hE hg.size hWe h hy hhi hWe hcell hL hb h63;exact vM
theorem Md (hf:kB T){We W W1:U}{B:Nat}{cs:Q Value}{x:α}(h:T.R W1 B cs x):fU T We W cs x:=⟨[],hf h W,II,II⟩
theorem xS (hgd:o.guard=C)(s x:Operand)(hE:hU P t e T Ti)(hf:kB T){W0 W W1:U}{hi0 B g cc:Nat}{A:X RJ}{n c:Nat}{xs:Q α}(h:kC (T.sl e) W0 hi0 W [G A n c] xs)(hg:fu W0 W)
  {ec:Q Value} {y:α} (hy:T.R W1 B ec y)
  (ho:o.op=.call { callee:=.builtin .append,args:=#[s,x],argTypes:=#[t,t] }) (hs:a.eval s=G A n c) (hx:a.eval x=G (D ⟨g,0,C⟩) 1 cc)
  (hcell:∀(j:Nat) (u:Value),ec[j]?=D u->Rb W ⟨g,j,C⟩=D u)
  {L:Nat} (hL:L=n+1) (hb:L*Ti<=140737488355328) (h63:L<=9223372036854775807)
  (hK:∀ A' c'' os d,fU (T.sl e) W0 (fy W0 os d) [G A' L c''] (xs++[y])->wpList P ops Q8 rest (a.put o.dst (G A' L c'')) (fy W0 os d)):wpList P ops Q8 (o::rest) a W:=
 JI hgd s x hE (h.fresh.mW) hg (We:=W) (Md hf hy) (Ru _) hg.size ho hs hx hcell hL hb h63 hK
end
section
variable {P:Program} {t:R5} {Ti:Nat} {ops:Array Oper} {rest:Q Oper} {o:Oper} {a:Act} {Q8:Exit->Act->U->Prop}
theorem oK.up {α:Type} {T:Ty α} {x:α} (h:oK T w hi n w1 cs x)(hg:fu w1 w2):oK T w hi n w2 cs x:=by
 obtain⟨S,h1,h2,h3⟩:=h;exact⟨S,T.jh h1 hg,h2,h3⟩
theorem oK.read {α:Type}{T:Ty α}{w w1:U}{hi n:Nat}{cs:Q Value}{x:α}(h:oK T w hi n w1 cs x):T.R w1 w1.heap.size cs x:=by
 obtain⟨S,h1,_,_⟩:=h;exact T.read h1
end
end
def nj:Ty UInt8 where
 size:=1
 R:=fun _ _ cs x=>cs = [J .u8 (x.toNat:Int)]
 O:=fun _ cs x S=>cs = [J .u8 (x.toNat:Int)]/\S = []
 lp:=by rintro _ _ _ _ rfl;rfl
 jC:=by rintro _ _ _ _ ⟨rfl,_⟩;rfl
 lH:=by rintro _ _ _ _ ⟨rfl,_⟩ u hu;simp at hu;subst hu;rfl
 ma:=by rintro _ _ _ _ rfl u hu;simp at hu;subst hu;rfl
 iH:=by rintro _ _ _ _ _ _ h _ _;exact h
 gD:=by rintro _ _ _ _ _ h _;exact h
 iY:=by rintro _ _ _ _ ⟨_,rfl⟩ k hk;simp at hk
 OR:=by rintro _ _ _ _ _ ⟨h1,_⟩ _;exact h1
theorem AI:kB nj:=fun h _=>⟨h,rfl⟩
theorem G5 (h0:0<=x)(h1:x<256):nj.R w B [J .u8 x] (Tr x.toNat):=by
 obtain⟨n,rfl⟩:=RE h0;show [J .u8 (n:Int)] = [J .u8 (((Tr (n:Int).toNat).toNat:Nat):Int)]
 have:(Tr (n:Int).toNat).toNat=n:=by
  rw[Ry];exact UInt8.toNat_ofNat_of_lt' (by show n<256;omega)
 rw[this]
theorem vT {g:Prop} (f:g:=by
  rw[hi] at h
  simp only[TK,RT,Tp] at h
  exact⟨i,_,rfl,h.1,h.2.1,h.2.2,rfl⟩):g:=f
theorem DH:hU prog 22 5 nj 1:=by
 refine⟨underlying22,?_,qo⟩;have h:(prog.info? 5).map (fun i=>(i.zero,i.size,i.bytes))=D (D (J .u8 0),1,1):=Fs;cases hi:prog.info? 5 with
 | none=>rw[hi] at h;simp at h
 | some i=>
  exact vT
theorem Fk {xs:Q UInt8} (h:(nj.sl e').R w B [G A n c] xs) :
  (convert 22 9 (G A n c)).run prog w=.ok (V ⟨xs.toArray⟩) w:=by
 obtain⟨A',c',h1,h2,h3,h4,h5⟩:=id h;simp only[TL,SY,Ud] at h1;obtain⟨rfl,rfl,rfl⟩:=h1;rcases UA xs.length with h0 | h0
 ·cases xs with
  | cons x xs=>simp at h0
  | nil=>
   cases A with
   | none=>exact run_convert_bytes_nil w _ _ underlying22 underlying5 _ _ _ underlying9
   | some a=>
    rw[run_convert_bytes_string w _ _ _ _ _ _ underlying22 underlying5 underlying9];rw[run_bytesToString w a _ _ [] (by simp[loadCells,loadCellsFrom,Sem.run_pure])];rfl
 ·obtain⟨g,a0,rfl,hg,h6⟩:=h5 h0
  have hr:=run_convert_bytes_arg (P:=prog) w 22 5 underlying22 underlying5 g a0 xs.length c (xs.map fun b=>(b.toNat:Int)) (by simp) (by
   intro i hi;obtain⟨ec,h7,h8⟩:=h6 i _ (Rn hi);obtain rfl:ec=_:=h7;have:=h8 0 _ rfl;rw[show a0+i*nj.size+0=a0+i from by show a0+i*1+0=_;omega] at this;rw[this]
   simp[List.getD,Rn hi]) _ underlying9
  rw[hr];have:((fun n:Int=>Tr n.toNat) ∘ fun b:UInt8=>(b.toNat:Int))=id:=by funext b;simp
  simp[strOfNums,this]
section
variable {α:Type}
def sR (cnt:α->Nat)(xs:Q α):Nat:=(xs.map cnt).sum
variable {mk:α->Int->α} {cnt:α->Nat}
theorem Gk (x:α)(xs:Q α):sR cnt (x::xs)=cnt x+sR cnt xs:=by simp[sR]
theorem M8 {xs:Q α} {i:Nat} {x:α} (h:xs[i]?=D x):sR cnt (xs.take (i+1))=sR cnt (xs.take i)+cnt x:=by
 rw[wD h];simp[sR]
theorem Ks (xs:Q α)(i:Nat):sR cnt (xs.take i)<=sR cnt xs:=by
 induction xs generalizing i with
 | nil=>simp[sR]
 | cons x xs ih=>
  cases i with
  | zero=>simp[sR]
  | succ i=>rw[RZ,Gk,Gk];have:=ih i;omega
end
end Go.Proofs.YthgbglbaemelhaaGreat
