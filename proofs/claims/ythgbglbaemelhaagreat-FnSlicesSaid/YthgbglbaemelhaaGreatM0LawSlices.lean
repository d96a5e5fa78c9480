/-
  PART.
-/
import Derived.WalkKit
import Derived.ProofKit
import Derived.OpenShut
import Derived.WalkSpells
import Derived.Below
import Derived.Carry
import Derived.ChangeOld
import Derived.Lib.Hide
import Derived.Maps.AppendAt
import Derived.Deep.AppendLies
import Derived.Deep.Draws
import Derived.Deep.Slices
import Derived.Deep.Fields
import Derived.Laws.OwnMore
import Derived.Laws.MakeOwn
import Derived.Laws.NewBlocks
import Derived.OwnWalk
import Derived.Test.YthgbglbaemelhaaGreatProg
import Derived.BigQuiet
import Derived.BigRegion
import Derived.Deep.QuietTactic
set_option linter.unusedVariables false
set_option linter.unusedSimpArgs false
set_option maxRecDepth 100000
set_option maxHeartbeats 8000000
namespace Go.Proofs.YthgbglbaemelhaaGreat
open Value renaming slice->G,int->J,bool->H,string->V,ownBlock->SW
open IntKind renaming i64->C
open Option renaming none->D,some->Z
open Obj renaming cells->F
open Bool renaming false->I,true->M
open Go renaming World->U,Calls->Rh,Addr->Ri,madeCells->R4
open World renaming cell?->QL,frozen?->Rb,setCell->RQ,alloc->RR
open _root_.Int renaming toNat_natCast->Ra
open List renaming length_cons->Rc
open RowKit renaming intOf->Ry,wrap64->Sf
open _root_.Nat renaming add_zero->RK
open _root_.Array renaming length_toList->RM
open Ending renaming returned->SN
open Tryz
open Go.RowKit
/-! ### the world with new blocks and draws -/
abbrev Q.{u}:=List.{u}
abbrev X.{u}:=Option.{u}
abbrev N:=ByteArray
abbrev QM.{u}:=@List.getElem?_eq_some_iff.{u}
abbrev QN.{u}:=@List.mem_singleton.{u}
abbrev QO:=@Go.heap_alloc_new
abbrev QQ:=@And.intro
abbrev QR.{u}:=@List.length_append.{u}
abbrev QS:=@Nat.lt_of_lt_of_le
abbrev QT:=@decide_eq_false
abbrev QU:=@Go.bodyPost_ret
abbrev QV.{u}:=@beq_eq_false_iff_ne.{u}
abbrev QW.{u}:=@List.getElem?_eq_getElem.{u}
abbrev QX:=@Nat.zero_le
abbrev QY:=@decide_eq_true
abbrev QZ.{u}:=@if_neg.{u}
abbrev Q4:=@Bool.and_eq_true
abbrev Q5.{u}:=@if_pos.{u}
abbrev Q6.{u}:=@List.drop_eq_getElem_cons.{u}
abbrev Q7.{u}:=@List.mem_append.{u}
abbrev Q8:=@Nat.le_refl
abbrev Q9.{u}:=@List.mem_of_getElem?.{u}
abbrev Re.{u,v}:=@Option.bind_eq_some_iff.{u,v}
abbrev Rf:=@Go.World.size_alloc
abbrev Rg:=@decide_eq_true_eq
abbrev Rj:=@Nat.le_trans
abbrev Rk:=@Nat.zero_add
abbrev Rl:=@Int.eq_ofNat_of_zero_le
abbrev Rm.{u}:=@List.mem_append_left.{u}
abbrev Rn.{u}:=@List.length_set.{u}
abbrev Rp.{u}:=@List.mem_cons.{u}
abbrev Rq.{u}:=@List.drop_length.{u}
abbrev Rr.{u}:=@List.mem_append_right.{u}
abbrev Rs.{u}:=@List.nodup_append.{u}
abbrev Rt.{u}:=@beq_iff_eq.{u}
abbrev Rv.{u}:=@Option.some.injEq.{u}
abbrev Rw.{u}:=@List.append_assoc.{u}
abbrev Rz:=@Go.bodyPost_end
abbrev RB:=@Bool.eq_false_or_eq_true
abbrev RE:=@Go.World.block_lt_of_cell?
abbrev RF.{u}:=@List.getElem?_append_right.{u}
abbrev RG.{u}:=@List.getD_eq_getElem?_getD.{u}
abbrev RH.{u}:=@List.take_add_one.{u}
abbrev RI:=@ByteArray.size_append
abbrev RJ.{u}:=@List.length_replicate.{u}
abbrev RO.{u}:=@List.not_mem_nil.{u}
abbrev RP:=@Nat.sub_self
abbrev RS.{u,v}:=@List.map_cons.{u,v}
abbrev RT.{u}:=@List.drop_succ_cons.{u}
abbrev RU:=@Go.IntWalk.i64_in
abbrev RV:=@Go.cell_of_row
abbrev RW:=@decide_eq_false_iff_not
abbrev RX.{u}:=@List.take_length.{u}
abbrev RY.{u}:=@List.getElem?_append_left.{u}
abbrev RZ.{u}:=@List.drop_zero.{u}
abbrev R5.{u}:=@Array.getElem?_eq_some_iff.{u}
abbrev R6.{u}:=@List.getElem?_eq_none_iff.{u}
abbrev R7.{u}:=@List.take_of_length_le.{u}
abbrev R8.{u,v}:=@Option.map_eq_some_iff.{u,v}
abbrev R9:=@ByteArray.append_assoc
abbrev Sg.{u,v}:=@congrArg.{u,v}
abbrev Sj.{u}:=@List.length_take.{u}
abbrev Sk:=@Nat.mul_le_mul_right
abbrev Sm.{u}:=@List.mem_cons_of_mem.{u}
abbrev Sn.{u}:=@List.getElem?_take.{u}
abbrev Sr.{u}:=@Classical.choose_spec.{u}
abbrev St:=@Go.Value.slice.injEq
abbrev SC.{u}:=@List.append_nil.{u}
abbrev SG.{u}:=@List.all_eq_true.{u}
abbrev SH:=@or_false
abbrev SJ:=@Go.info_parts
abbrev SK:=@Int.le_refl
abbrev SM.{u,v}:=@Prod.mk.injEq.{u,v}
abbrev SR.{u}:=@List.any_eq_true.{u}
abbrev SU.{u}:=@List.length_drop.{u}
abbrev SX.{u}:=@List.drop_eq_nil_of_le.{u}
abbrev SY:=@Nat.lt_succ_of_lt
abbrev Ta:=@Go.wpStill_nil
abbrev Tb.{u}:=@List.getElem?_eq_none.{u}
abbrev Tc.{u}:=@List.mem_cons_self.{u}
abbrev Td:=@Int.add_sub_cancel
abbrev Te.{u}:=@List.filter_cons.{u}
abbrev Tf:=@Nat.succ_le_succ
abbrev Th:=@Int.add_zero
abbrev Ti.{u}:=@List.getElem?_of_mem.{u}
abbrev Tj.{u}:=@List.length_eq_zero_iff.{u}
abbrev Tk.{u}:=@if_true.{u}
abbrev Tl:=@of_decide_eq_true
abbrev To.{u}:=@Array.getElem?_eq_none.{u}
abbrev Tp.{u}:=@List.getElem?_set_self.{u}
abbrev Tq:=@Nat.mul_one
abbrev Tr:=@Bool.true_and
abbrev Tu:=@Nat.le_add_right
abbrev Tv.{u}:=@List.setIfInBounds_toArray.{u}
abbrev Tw.{u}:=@List.getElem?_drop.{u}
abbrev Tx:=@ByteArray.data_append
abbrev Tz.{u}:=@List.mem_or_eq_of_mem_set.{u}
abbrev TA.{u}:=@List.nodup_cons.{u}
abbrev TB.{u}:=@List.cons.injEq.{u}
abbrev TD:=@Nat.le_of_eq
abbrev TF.{u}:=@List.eq_of_mem_replicate.{u}
abbrev TG:=@Nat.and_two_pow_sub_one_eq_mod
abbrev TH.{u}:=@List.drop_drop.{u}
abbrev TI:=@Nat.mod_eq_of_lt
abbrev TJ.{u}:=@List.eq_nil_of_length_eq_zero.{u}
abbrev TL:=@Nat.add_comm
abbrev TM:=@Go.Addr.add_lit
abbrev TN.{u,v}:=@List.mem_map.{u,v}
abbrev TO:=@and_true
abbrev TQ.{u}:=@List.all_append.{u}
abbrev TR.{u,v}:=@List.map_append.{u,v}
abbrev TS:=@Nat.lt_irrefl
abbrev TT:=@Bool.and_eq_false_iff
abbrev TU:=@Bool.not_eq_true'
abbrev TV:=@Nat.one_mul
abbrev TW:=@Nat.pow_le_pow_right
abbrev TX.{u}:=@List.getElem?_set_ne.{u}
abbrev TY:=@Nat.ne_of_gt
abbrev TZ.{u}:=@List.getLast?_eq_getElem?.{u}
abbrev Ua.{u}:=@Array.getElem?_eq_getElem.{u}
abbrev Ub:=@Go.ByteArray.toList_eq
abbrev Uc.{u,v}:=@List.length_map.{u,v}
abbrev Ud.{u}:=@Array.ext_getElem?.{u}
abbrev Ue:=@Nat.eq_zero_or_pos
abbrev Uf:=@Bool.true_eq_false
abbrev Ug:=@decide_eq_true_iff
abbrev Uh:=@of_decide_eq_false
abbrev Uj:=@Nat.lt_trichotomy
abbrev Uk:=@ByteArray.size_extract
abbrev Ul.{u}:=@List.drop_left.{u}
abbrev Um.{u,v}:=@List.getElem?_map.{u,v}
abbrev Un.{u}:=@List.filter_eq_nil_iff.{u}
abbrev Uo.{u}:=@Array.getElem?_modify.{u}
abbrev Up.{u}:=@List.set_append_right.{u}
abbrev Uq.{u}:=@List.length_filter_le.{u}
abbrev Ur:=@Nat.add_mul
abbrev Us:=@Nat.le_succ
abbrev Ut:=@Bool.eq_iff_iff
abbrev Uu:=@Bool.or_eq_true
abbrev Uv:=@Nat.not_lt_zero
abbrev Uw:=@Go.wpList_plain
abbrev Ux:=@Nat.zero_mul
abbrev Uy:=@Nat.lt_or_ge
abbrev Uz:=@Go.RowKit.Below.heap_setCell
abbrev UA:=@Nat.mod_lt
abbrev UB:=@Nat.eq_or_lt_of_le
abbrev UC:=@Int.tdiv_eq_ediv_of_nonneg
abbrev UD:=@Nat.mul_le_mul
abbrev UE.{u}:=@List.filter_append.{u}
abbrev UF.{u}:=@List.getElem?_set.{u}
abbrev UG.{u}:=@List.ext_getElem?.{u}
abbrev UH:=@Bool.eq_false_iff
abbrev UI:=@ByteArray.ext
abbrev UJ:=@Go.Addr.mk.injEq
abbrev UK:=@Bool.false_or
abbrev UL:=@true_and
abbrev UM:=@Nat.mul_comm
abbrev UN:=@Nat.succ_mul
abbrev UO:=@Nat.le_of_lt
abbrev UP:=@Nat.ne_of_lt
abbrev UQ:=@Nat.min_eq_left
abbrev UR:=@Bool.not_false
abbrev US:=@Bool.and_false
abbrev UT:=@Go.getD_set_ne
abbrev UU:=@and_assoc
abbrev UW:=@Nat.add_assoc
abbrev UX:=@Bool.and_true
abbrev UY:=@Or.elim
variable {A:X Ri}{B c g hi k m n:Nat}{P:Program}{S S':Q Nat}{W W0 a b w w1 w2:U}{cs:Q Value}{cur:Array Value}{e:TypeId}{v:Value}{x:Int}
theorem lay:(∀(a:Act)(t:Tmp)(v:Value),a.put (Z t) v = { a with tmps:=a.tmps.setIfInBounds t v })/\(∀(a:Act)(v:Value),a.put D v=a)/\(∀(l:Q Value)(i:Nat)(v:Value),l.toArray.setIfInBounds i v=(l.set i v).toArray)/\(∀(x v:Value)(l:Q Value),(x::l).set 0 v=v::l)/\(∀(x v:Value)(l:Q Value)(n:Nat),(x::l).set (n+1) v=x::l.set n v):=⟨fun _ _ _=>rfl,fun _ _=>rfl,fun _ _ _=>Tv ..,fun _ _ _=>rfl,fun _ _ _ _=>rfl⟩
theorem iw {n:Int} (h : -9223372036854775808<=n/\n<=9223372036854775807:=by omega):IntKind.i64.wrap n=n:=RU _ ⟨h.1,by omega⟩
theorem blt {o:Obj} (h:w.heap[g]?=Z o):g<w.heap.size:=(R5.1 h).1
theorem fh {p:Prop} (h:p):Hid p:=Lib.hid h
theorem gO:(∀(l:Q Value)(i:Nat)(h:i<l.toArray.size),l.toArray[i]=l[i]'(by simpa using h))/\(∀(a:Value)(l:Q Value)(i:Nat)(h:i+1<(a::l).length),(a::l)[i+1]=l[i]'(by simpa using h))/\(∀(a:Value)(l:Q Value)(h:0<(a::l).length),(a::l)[0]=a)/\(∀(a:Act)(t:Tmp)(v:Value),a.put (Z t) v = { a with tmps:=a.tmps.setIfInBounds t v })/\(∀(a:Act)(v:Value),a.put D v=a)/\(∀(l:Q Value)(i:Nat)(v:Value),l.toArray.setIfInBounds i v=(l.set i v).toArray)/\(∀(x v:Value)(l:Q Value),(x::l).set 0 v=v::l)/\(∀(x v:Value)(l:Q Value)(n:Nat),(x::l).set (n+1) v=x::l.set n v):=⟨fun _ _ _=>List.getElem_toArray ..,fun _ _ _ _=>rfl,fun _ _ _=>rfl,lay⟩
theorem gH {p:Prop} (h:p:=by(simp[Ry];try omega)):p:=h
def fx (w:U)(os:Array Obj)(d:Nat):U:={ w with heap:=w.heap++os,drawn:=d }
section
variable {w:U}
theorem wS (os:Array Obj)(d n:Nat)(hn:n<w.heap.size):(fx w os d).heap[n]?=w.heap[n]?:=by
 simp only[fx];exact Array.getElem?_append_left hn
@[simp,go_sem] theorem lr (os:Array Obj) (d:Nat):(fx w os d).heap.size=w.heap.size+os.size:=by simp[fx]
@[go_sem] theorem Qn (os:Array Obj) (d:Nat):(fx w os d).tape=w.tape:=rfl
@[go_sem] theorem Ox (os:Array Obj) (d n i:Nat) (hn:n<w.heap.size):(fx w os d).cell? ⟨n,i,D⟩=QL w ⟨n,i,D⟩:=by
 simp only[QL,wS os d n hn]
@[go_sem] theorem Fe (os:Array Obj) (d n i:Nat) (hn:n<w.heap.size):(fx w os d).frozen? ⟨n,i,D⟩=Rb w ⟨n,i,D⟩:=by
 simp only[Rb,wS os d n hn]
@[go_sem] theorem Kx (os:Array Obj) (d n i:Nat) (v:Value) (hn:n<w.heap.size):(fx w os d).setCell ⟨n,i,D⟩ v=fx (w.setCell ⟨n,i,D⟩ v) os d:=by
 unfold RQ fx;congr 1;apply Ud;intro k;simp only[Uo,Array.getElem?_append,Array.size_modify];by_cases hk:k=n
 ·subst hk
  simp[hn]
 ·have a0:¬ n=k:=fun e=>hk e.symm
  simp[a0]
theorem PJ (os os':Array Obj)(d d':Nat):fx (fx w os d) os' d'=fx w (os++os') d':=by
 simp[fx]
@[go_sem] theorem Qu (os:Array Obj) (d:Nat):fx w.drew os d=fx w os d:=rfl
@[go_sem] theorem Qm (n:Nat) (os:Array Obj) (d:Nat):fx (w.drewN n) os d=fx w os d:=rfl
theorem Eb (o:Obj):w.alloc o=fx w #[o] w.drawn:=by
 unfold fx RR;simp
theorem Kw:w.drew=fx w #[] (w.drawn+1):=by
 unfold fx World.drew;simp
theorem Oy:w=fx w #[] w.drawn:=by simp[fx]
end
@[go_sem] theorem Qw {a b c:Nat} (h:a<b):(a<b+c)=True:=by simp;omega
@[go_sem] theorem Qk (w:U) (n:Nat) (p:Ri) (v:Value):(w.drewN n).setCell p v=(w.setCell p v).drewN n:=rfl
@[go_sem] theorem Qs (w:U) (n:Nat) (o:Obj):(w.drewN n).alloc o=(w.alloc o).drewN n:=rfl
def mA (n:Nat)(w:U):Prop:=n<w.heap.size
@[go_sem] theorem Qp (n:Nat) (w:U) (o:Obj):mA n (w.alloc o)=(n=w.heap.size∨mA n w):=by
 unfold mA;rw[Rf];exact propext ⟨fun h=>by omega,fun h=>by omega⟩
@[go_sem] theorem Qx (n:Nat) (w:U) (os:Array Obj) (d:Nat):mA n (fx w os d)=(mA n w∨(w.heap.size<=n/\n<w.heap.size+os.size)):=by
 unfold mA;rw[lr];exact propext ⟨fun h=>by omega,fun h=>by omega⟩
@[go_sem] theorem Qo (n:Nat) (w:U):mA n w.drew=mA n w:=rfl
@[go_sem] theorem Qq (n k:Nat) (w:U):mA n (w.drewN k)=mA n w:=rfl
@[go_sem] theorem Qv (n:Nat) (w:U) (p:Ri) (v:Value):mA n (w.setCell p v)=mA n w:=by
 unfold mA;rw[World.size_setCell]
@[go_sem] theorem Qy {n:Nat} {w:U} (h:n<w.heap.size):mA n w=True:=eq_true h
section
variable {w:U}
@[go_sem] theorem Qi (o:Obj) (n i:Nat) (hn:mA n w):(w.alloc o).cell? ⟨n,i,D⟩=QL w ⟨n,i,D⟩:=World.cell?_alloc_past o n i hn
@[go_sem] theorem Qh (o:Obj) (n i:Nat) (hn:mA n w):(w.alloc o).frozen? ⟨n,i,D⟩=Rb w ⟨n,i,D⟩:=World.frozen?_alloc_past o n i hn
@[go_sem] theorem Je (o:Obj) (n i:Nat) (v:Value) (hn:mA n w):(w.alloc o).setCell ⟨n,i,D⟩ v=(w.setCell ⟨n,i,D⟩ v).alloc o:=World.setCell_alloc_past o n i v hn
@[go_sem] theorem Qt (os:Array Obj) (d n i:Nat) (hn:mA n w):(fx w os d).cell? ⟨n,i,D⟩=QL w ⟨n,i,D⟩:=Ox os d n i hn
@[go_sem] theorem Qj (os:Array Obj) (d n i:Nat) (hn:mA n w):(fx w os d).frozen? ⟨n,i,D⟩=Rb w ⟨n,i,D⟩:=Fe os d n i hn
@[go_sem] theorem Ql (os:Array Obj) (d n i:Nat) (v:Value) (hn:mA n w):(fx w os d).setCell ⟨n,i,D⟩ v=fx (w.setCell ⟨n,i,D⟩ v) os d:=Kx os d n i v hn
end
def ft (w w':U):Prop:=∃ os d,w'=fx w os d
theorem ft.refl (w:U):ft w w:=⟨_,_,Oy⟩
theorem ft.ld (a:U)(os:Array Obj)(d:Nat):ft (fx a.drew os d) (fx a os d):=ft.refl (fx a os d)
theorem ft.kt (a:U)(n:Nat)(os:Array Obj)(d:Nat):ft (fx (a.drewN n) os d) (fx a os d):=ft.refl (fx a os d)
theorem ft.of (w:U)(os:Array Obj)(d:Nat):ft w (fx w os d):=⟨_,_,rfl⟩
theorem ft.trans {c:U} (h:ft a b)(k:ft b c):ft a c:=by
 obtain⟨o,d,rfl⟩:=h;obtain⟨o',d',rfl⟩:=k;exact⟨_,_,PJ _ _ _ _⟩
theorem ft.alloc {a b:U}(h:ft a b)(o:Obj):ft a (b.alloc o):=h.trans ⟨_,_,Eb o⟩
theorem ft.drew {a b:U}(h:ft a b):ft a b.drew:=h.trans ⟨_,_,Kw⟩
theorem ft.more (h:ft a b)(os:Array Obj)(d:Nat):ft a (fx b os d):=h.trans ⟨_,_,rfl⟩
theorem ft.size {a b:U}(h:ft a b):a.heap.size<=b.heap.size:=by
 obtain⟨o,d,rfl⟩:=h;rw[lr];omega
theorem ft.block (h:ft a b){k:Nat}(hk:k<a.heap.size):b.heap[k]?=a.heap[k]?:=by
 obtain⟨o,d,rfl⟩:=h;exact wS _ _ _ hk
theorem ft.below (h:ft a b):Below a.heap.size a b:=by
 obtain⟨o,d,rfl⟩:=h;exact⟨rfl,rfl,rfl,by simp[fx],fun k hk=>wS _ _ _ hk⟩
theorem ft.jI (h:Below a.heap.size a b):ft a b:=by
 refine⟨b.heap.extract a.heap.size b.heap.size,b.drawn,?_⟩
 have hh:b.heap=a.heap++b.heap.extract a.heap.size b.heap.size:=by
  apply Ud;intro k;rw[Array.getElem?_append];split
  ·rename_i hk
   exact h.block k hk
  ·rename_i hk
   rw[Array.getElem?_extract];have:=h.size;split
   ·congr 1
    omega
   ·rw[To]
    omega
 unfold fx;rw[<-hh];have h1:=h.os;have h2:=h.tape;have h3:=h.output;cases a;cases b;simp only at h1 h2 h3;subst h1 h2 h3;rfl
theorem ft.grown {W0 W w':U}{row:X Nat}(h:ft W0 W)(hg:W.grownBy w' row)(hr:∀ k,row=Z k->W0.heap.size<=k):ft W0 w':=
 ft.jI (h.below.grown hg h.size hr)
theorem ft.setRow (h:ft W0 W){p:Ri}(hp:W0.heap.size<=p.block)(u:Value):ft W0 (W.setCell p u):=
 ft.jI (h.below.setCell hp u)
def hU (n m:Nat)(w w':U):Prop:=∀ k,n<=k->k<m->w'.heap[k]?=w.heap[k]?
theorem hU.refl (n m:Nat)(w:U):hU n m w w:=fun _ _ _=>rfl
theorem hU.base {os:Array Obj} {d d':Nat} (h:b.heap.size=a.heap.size)(hn:a.heap.size<=n):hU n m (fx a os d) (fx b os d'):=by
 intro k hk _;simp only[Go.Proofs.YthgbglbaemelhaaGreat.fx];rw[Array.getElem?_append_right (by omega),Array.getElem?_append_right (by omega),h]
theorem hU.more (h:hU n m a b)(hm:m<=b.heap.size)(os:Array Obj)(d:Nat):hU n m a (Go.Proofs.YthgbglbaemelhaaGreat.fx b os d):=
 fun k h1 h2=>(wS os d k (by omega)).trans (h k h1 h2)
theorem hU.alloc {n m:Nat}{a b:U}(h:hU n m a b)(hm:m<=b.heap.size)(o:Obj):hU n m a (b.alloc o):=
 fun k h1 h2=>(Below.heap_alloc b o k (by omega)).trans (h k h1 h2)
theorem hU.drew {n m:Nat}{a b:U}(h:hU n m a b):hU n m a b.drew:=h
theorem hU.drewN {n m k:Nat}{a b:U}(h:hU n m a b):hU n m a (b.drewN k):=h
theorem hU.fx (h:ft a b):hU n a.heap.size a b:=fun _ _ h2=>h.block h2
/-! ### only the blocks of S have turned -/
structure fw (S:Q Nat)(w w':U):Prop where
 os:w'.os=w.os
 tape:w'.tape=w.tape
 output:w'.output=w.output
 size:w.heap.size<=w'.heap.size
 block:∀ k,k<w.heap.size->k∉S->w'.heap[k]?=w.heap[k]?
theorem fw.refl (S:Q Nat)(w:U):fw S w w:=⟨rfl,rfl,rfl,Q8 _,fun _ _ _=>rfl⟩
theorem fw.trans {S:Q Nat}{a b c:U}(h:fw S a b)(k:fw S b c):fw S a c:=
 ⟨k.os.trans h.os,k.tape.trans h.tape,k.output.trans h.output,Rj h.size k.size,fun i hi hn=>(k.block i (QS hi h.size) hn).trans (h.block i hi hn)⟩
theorem fw.mono (h:fw S a b)(hs:∀ k∈S,k∈S'):fw S' a b:=
 ⟨h.os,h.tape,h.output,h.size,fun i hi hn=>h.block i hi (fun hm=>hn (hs i hm))⟩
theorem ft.only (h:ft a b)(S:Q Nat):fw S a b:=by
 have hb:=h.below;exact⟨hb.os,hb.tape,hb.output,hb.size,fun k hk _=>hb.block k hk⟩
theorem fw.setCell {S:Q Nat}{a b:U}(h:fw S a b){p:Ri}(hp:p.block∈S)(u:Value):fw S a (b.setCell p u):=
 h.trans ⟨rfl,rfl,rfl,by simp,fun k _ hn=>Uz _ _ _ _ (fun e=>hn (by rw[e];exact hp))⟩
theorem fw.cell {S:Q Nat}{a b:U}(h:fw S a b){g:Nat}(hg:g<a.heap.size)(hn:g∉S)(i:Nat):QL b ⟨g,i,D⟩=QL a ⟨g,i,D⟩:=
 World.cell?_of_block (h.block g hg hn)
theorem fw.frozen {S:Q Nat}{a b:U}(h:fw S a b){g:Nat}(hg:g<a.heap.size)(hn:g∉S)(i:Nat):Rb b ⟨g,i,D⟩=Rb a ⟨g,i,D⟩:=
 World.frozen?_of_block (h.block g hg hn)
theorem fw.fx (h:fw S a b)(hg:ft W0 a)(hs:∀ k∈S,W0.heap.size<=k):ft W0 b:=
 ft.jI ⟨h.os.trans hg.below.os,h.tape.trans hg.below.tape,h.output.trans hg.below.output,Rj hg.size h.size,fun k hk=>
  (h.block k (QS hk hg.size) (fun hm=>by have:=hs k hm;omega)).trans (hg.block hk)⟩
/-! ### how a Go type's cells read -/
structure Ty (α:Type) where
 size:Nat
 R:U->Nat->Q Value->α->Prop
 O:U->Q Value->α->Q Nat->Prop
 kZ:∀{w B cs x},R w B cs x->cs.length=size
 ju:∀{w cs x S},O w cs x S->cs.length=size
 lB:∀{w cs x S},O w cs x S->∀ u∈cs,u.oneCell'=M
 lU:∀{w B cs x},R w B cs x->∀ u∈cs,u.oneCell'=M
 iG:∀{w w' B B' cs x},R w B cs x->(∀ k,k<B->w'.heap[k]?=w.heap[k]?)->B<=B'->R w' B' cs x
 gD:∀{w w' cs x S},O w cs x S->(∀ k∈S,w'.heap[k]?=w.heap[k]?)->O w' cs x S
 ja:∀{w cs x S},O w cs x S->∀ k∈S,k<w.heap.size
 OR:∀{w cs x S B},O w cs x S->(∀ k∈S,k<B)->R w B cs x
theorem Ty.fx {α:Type} (T:Ty α){w w':U}{B:Nat}{cs:Q Value}{x:α}(h:T.R w B cs x)(hg:ft w w')(hB:B<=w.heap.size):T.R w' B cs x:=
 T.iG h (fun _ hk=>hg.block (by omega)) (Q8 _)
theorem Ty.up {α:Type} (T:Ty α){w w':U}{cs:Q Value}{x:α}(h:T.R w w.heap.size cs x)(hg:ft w w'):T.R w' w'.heap.size cs x:=
 T.iG h (fun _ hk=>hg.block hk) hg.size
theorem Ty.jg {α:Type} (T:Ty α){w w':U}{cs:Q Value}{x:α}{S:Q Nat}(h:T.O w cs x S)(hg:ft w w'):T.O w' cs x S:=
 T.gD h fun _ hk=>hg.block (T.ja h _ hk)
theorem Ty.same {α:Type} (T:Ty α){w w':U}{cs:Q Value}{x:α}{S:Q Nat}{n:Nat}(h:T.O w cs x S)(hL:∀ b∈S,n<=b)(hs:hU n w.heap.size w w'):T.O w' cs x S:=
 T.gD h fun k hk=>hs k (hL k hk) (T.ja h k hk)
theorem Ty.read {α:Type} (T:Ty α){w:U}{cs:Q Value}{x:α}{S:Q Nat}(h:T.O w cs x S):T.R w w.heap.size cs x:=T.OR h (T.ja h)
def fD (x:Int):Prop:=-9223372036854775808<=x/\x<=9223372036854775807
def zr:Ty Int where
 size:=1
 R:=fun _ _ cs x=>cs = [J C x]/\-9223372036854775808<=x/\x<=9223372036854775807
 O:=fun _ cs x S=>cs = [J C x]/\-9223372036854775808<=x/\x<=9223372036854775807/\S = []
 kZ:=by rintro _ _ _ _ ⟨rfl,_⟩;rfl
 ju:=by rintro _ _ _ _ ⟨rfl,_⟩;rfl
 lB:=by rintro _ _ _ _ ⟨rfl,_⟩ u hu;simp at hu;subst hu;rfl
 lU:=by rintro _ _ _ _ ⟨rfl,_⟩ u hu;simp at hu;subst hu;rfl
 iG:=by rintro _ _ _ _ _ _ h _ _;exact h
 gD:=by rintro _ _ _ _ _ h _;exact h
 ja:=by rintro _ _ _ _ ⟨_,_,_,rfl⟩ k hk;simp at hk
 OR:=by rintro _ _ _ _ _ ⟨h1,h2,h3,_⟩ _;exact⟨h1,h2,h3⟩
def yp:Ty Bool where
 size:=1
 R:=fun _ _ cs x=>cs = [H x]
 O:=fun _ cs x S=>cs = [H x]/\S = []
 kZ:=by rintro _ _ _ _ rfl;rfl
 ju:=by rintro _ _ _ _ ⟨rfl,_⟩;rfl
 lB:=by rintro _ _ _ _ ⟨rfl,_⟩ u hu;simp at hu;subst hu;rfl
 lU:=by rintro _ _ _ _ rfl u hu;simp at hu;subst hu;rfl
 iG:=by rintro _ _ _ _ _ _ h _ _;exact h
 gD:=by rintro _ _ _ _ _ h _;exact h
 ja:=by rintro _ _ _ _ ⟨_,rfl⟩ k hk;simp at hk
 OR:=by rintro _ _ _ _ _ ⟨h1,_⟩ _;exact h1
def iH:Ty N where
 size:=1
 R:=fun _ _ cs x=>cs = [V x]/\x.size<=9223372036854775807
 O:=fun _ cs x S=>cs = [V x]/\x.size<=9223372036854775807/\S = []
 kZ:=by rintro _ _ _ _ ⟨rfl,_⟩;rfl
 ju:=by rintro _ _ _ _ ⟨rfl,_⟩;rfl
 lB:=by rintro _ _ _ _ ⟨rfl,_⟩ u hu;simp at hu;subst hu;rfl
 lU:=by rintro _ _ _ _ ⟨rfl,_⟩ u hu;simp at hu;subst hu;rfl
 iG:=by rintro _ _ _ _ _ _ h _ _;exact h
 gD:=by rintro _ _ _ _ _ h _;exact h
 ja:=by rintro _ _ _ _ ⟨_,_,rfl⟩ k hk;simp at hk
 OR:=by rintro _ _ _ _ _ ⟨h1,h2,_⟩ _;exact⟨h1,h2⟩
def Ty.prod {α β:Type}(T:Ty α)(QF:Ty β):Ty (α × β) where
 size:=T.size+QF.size
 R:=fun w B cs x=>∃ c1 c2,cs=c1++c2/\T.R w B c1 x.1/\QF.R w B c2 x.2
 O:=fun w cs x S=>∃ c1 c2 S1 S2,cs=c1++c2/\S=S1++S2/\T.O w c1 x.1 S1/\QF.O w c2 x.2 S2
 kZ:=by rintro _ _ _ _ ⟨c1,c2,rfl,h1,h2⟩;simp[T.kZ h1,QF.kZ h2]
 ju:=by rintro _ _ _ _ ⟨c1,c2,_,_,rfl,_,h1,h2⟩;simp[T.ju h1,QF.ju h2]
 lB:=by
  rintro _ _ _ _ ⟨c1,c2,_,_,rfl,_,h1,h2⟩ u hu
  rcases Q7.1 hu with hu | hu
  ·exact T.lB h1 u hu
  ·exact QF.lB h2 u hu
 lU:=by
  rintro _ _ _ _ ⟨c1,c2,rfl,h1,h2⟩ u hu
  rcases Q7.1 hu with hu | hu
  ·exact T.lU h1 u hu
  ·exact QF.lU h2 u hu
 iG:=by rintro _ _ _ _ _ _ ⟨c1,c2,rfl,h1,h2⟩ hk hB;exact⟨c1,c2,rfl,T.iG h1 hk hB,QF.iG h2 hk hB⟩
 gD:=by
  rintro _ _ _ _ _ ⟨c1,c2,S1,S2,rfl,rfl,h1,h2⟩ hk
  exact⟨c1,c2,S1,S2,rfl,rfl,T.gD h1 (fun k hk1=>hk k (Rm _ hk1)),QF.gD h2 (fun k hk2=>hk k (Rr _ hk2))⟩
 ja:=by
  rintro _ _ _ _ ⟨c1,c2,S1,S2,rfl,rfl,h1,h2⟩ k hk
  rcases Q7.1 hk with hk | hk
  ·exact T.ja h1 k hk
  ·exact QF.ja h2 k hk
 OR:=by
  rintro _ _ _ _ _ ⟨c1,c2,S1,S2,rfl,rfl,h1,h2⟩ hk
  exact⟨c1,c2,rfl,T.OR h1 (fun k hk1=>hk k (Rm _ hk1)),QF.OR h2 (fun k hk2=>hk k (Rr _ hk2))⟩
def Ty.via {α β:Type}(T:Ty α)(f:β->α):Ty β where
 size:=T.size
 R:=fun w B cs x=>T.R w B cs (f x)
 O:=fun w cs x S=>T.O w cs (f x) S
 kZ:=T.kZ
 ju:=T.ju
 lB:=T.lB
 lU:=T.lU
 iG:=T.iG
 gD:=T.gD
 ja:=T.ja
 OR:=T.OR
def Rows {α:Type}(T:Ty α)(w:U):Q Value->Q α->Q Nat->Prop
 | cs,[],S=>cs = []/\S = []
 | cs,x::xs,S=>∃ c1 c2 S1 S2,cs=c1++c2/\S=S1++S2/\T.O w c1 x S1/\Rows T w c2 xs S2
section
variable {α:Type} {T:Ty α} {w w':U}
theorem Rows.len:∀{xs:Q α}{cs:Q Value}{S:Q Nat},Rows T w cs xs S->cs.length=xs.length*T.size
 | [],_,_,h=>by simp[h.1]
 | x::xs,_,_,⟨c1,c2,S1,S2,h1,_,h3,h4⟩=>by
  subst h1;rw[QR,T.ju h3,Rows.len h4,Rc,Ur,TV,TL]
theorem Rows.one:∀{xs:Q α}{cs:Q Value}{S:Q Nat},Rows T w cs xs S->∀ u∈cs,u.oneCell'=M
 | [],_,_,h=>by simp[h.1]
 | x::xs,_,_,⟨c1,c2,S1,S2,h1,_,h3,h4⟩=>by
  subst h1;intro u hu;rcases Q7.1 hu with hu | hu
  ·exact T.lB h3 u hu
  ·exact Rows.one h4 u hu
theorem Rows.fJ:∀{xs:Q α}{cs:Q Value}{S:Q Nat},Rows T w cs xs S->(∀ k∈S,w'.heap[k]?=w.heap[k]?)->Rows T w' cs xs S
 | [],_,_,h,_=>h
 | x::xs,_,_,⟨c1,c2,S1,S2,h1,h2,h3,h4⟩,hk=>by
  subst h2;exact⟨c1,c2,S1,S2,h1,rfl,T.gD h3 (fun k hk1=>hk k (Rm _ hk1)),Rows.fJ h4 (fun k hk2=>hk k (Rr _ hk2))⟩
theorem Rows.lt:∀{xs:Q α}{cs:Q Value}{S:Q Nat},Rows T w cs xs S->∀ k∈S,k<w.heap.size
 | [],_,_,h=>by simp[h.2]
 | x::xs,_,_,⟨c1,c2,S1,S2,h1,h2,h3,h4⟩=>by
  subst h2;intro k hk;rcases Q7.1 hk with hk | hk
  ·exact T.ja h3 k hk
  ·exact Rows.lt h4 k hk
theorem Rows.snoc:∀{xs:Q α}{cs:Q Value}{S:Q Nat},Rows T w cs xs S->∀{c:Q Value}{x:α}{S':Q Nat},T.O w c x S'->Rows T w (cs++c) (xs++[x]) (S++S')
 | [],_,_,h,c,x,S',hx=>by
  obtain⟨rfl,rfl⟩:=h;exact⟨c,[],S',[],by simp,by simp,hx,rfl,rfl⟩
 | y::ys,_,_,⟨c1,c2,S1,S2,h1,h2,h3,h4⟩,c,x,S',hx=>by
  subst h1 h2;exact⟨c1,c2++c,S1,S2++S',by simp,by simp,h3,Rows.snoc h4 hx⟩
theorem Rows.app:∀{xs:Q α}{cs:Q Value}{S:Q Nat},Rows T w cs xs S->∀{ys:Q α}{ds:Q Value}{S':Q Nat},Rows T w ds ys S'->Rows T w (cs++ds) (xs++ys) (S++S')
 | [],_,_,h,ys,ds,S',hy=>by
  obtain⟨rfl,rfl⟩:=h;simpa using hy
 | x::xs,_,_,⟨c1,c2,S1,S2,h1,h2,h3,h4⟩,ys,ds,S',hy=>by
  subst h1 h2;exact⟨c1,c2++ds,S1,S2++S',by simp,by simp,h3,Rows.app h4 hy⟩
theorem Rows.part:∀{k:Nat}{xs:Q α}{cs:Q Value}{S:Q Nat},Rows T w cs xs S->∀{x:α},xs[k]?=Z x->
  ∃ a c b Sa Sc Sb,cs=a++(c++b)/\S=Sa++(Sc++Sb)/\a.length=k*T.size/\Rows T w a (xs.take k) Sa/\T.O w c x Sc/\Rows T w b (xs.drop (k+1)) Sb
 | _,[],_,_,_,x,hx=>by simp at hx
 | 0,y::ys,_,_,⟨c1,c2,S1,S2,h1,h2,h3,h4⟩,x,hx=>by
  simp at hx;subst hx;exact⟨[],c1,c2,[],S1,S2,by simp[h1],by simp[h2],by simp,⟨rfl,rfl⟩,h3,by simpa using h4⟩
 | k+1,y::ys,_,_,⟨c1,c2,S1,S2,h1,h2,h3,h4⟩,x,hx=>by
  obtain⟨a,c,b,Sa,Sc,Sb,e1,e2,e3,ha,hc,hb⟩:=Rows.part h4 (k:=k) (x:=x) (by simpa using hx);subst h1 h2 e1 e2;refine⟨c1++a,c,b,S1++Sa,Sc,Sb,by simp,by simp,?_,?_,hc,?_⟩
  ·rw[QR,T.ju h3,e3,Ur,TV,TL]
  ·exact⟨c1,a,S1,Sa,rfl,rfl,h3,ha⟩
  ·simpa using hb
theorem Rows.join {xs:Q α} {a c b:Q Value} {Sa Sc Sb:Q Nat} {x y:α} (hx:xs[k]?=Z x)(ha:Rows T w a (xs.take k) Sa)(hc:T.O w c y Sc)(hb:Rows T w b (xs.drop (k+1)) Sb) :
  Rows T w (a++(c++b)) (xs.set k y) (Sa++(Sc++Sb)):=by
 have hk:k<xs.length:=(QM.1 hx).1
 have e:xs.set k y=xs.take k++([y]++xs.drop (k+1)):=by
  rw[List.set_eq_take_append_cons_drop,Q5 hk];rfl
 rw[e];exact Rows.app ha (Rows.app (show Rows T w c [y] Sc from⟨c,[],Sc,[],by simp,by simp,hc,rfl,rfl⟩) hb)
theorem rM {g:Prop} (f:g:=by
  rw[RF (by omega),hl,Nat.add_sub_cancel_left,RY (QM.1 hu).1]
  exact hu):g:=f
theorem Rows.get {xs:Q α} (h:Rows T w cs xs S){x:α}(hx:xs[k]?=Z x) :
  ∃ c Sc,T.O w c x Sc/\(∀ j∈Sc,j∈S)/\∀ j u,c[j]?=Z u->cs[k*T.size+j]?=Z u:=by
 obtain⟨a,c,b,Sa,Sc,Sb,rfl,rfl,hl,_,hc,_⟩:=h.part hx;refine⟨c,Sc,hc,fun j hj=>by simp[hj],fun j u hu=>?_⟩;exact rM
end
def kj:X Ri->Q Nat
 | some a=>[a.block]
 | none=>[]
def Ty.sl {α:Type}(T:Ty α)(e:TypeId):Ty (Q α) where
 size:=1
 R:=fun w B cs xs=>∃ A c,cs = [G A xs.length c]/\xs.length<=c/\c<=9223372036854775807/\(A=D->c=0)/\
  (0<xs.length->∃ g off,A=Z ⟨g,off,D⟩/\g<B/\∀ i x,xs[i]?=Z x->∃ ec,T.R w B ec x/\∀ j u,ec[j]?=Z u->QL w ⟨g,off+i*T.size+j,D⟩=Z u)
 O:=fun w cs xs S=>∃ A c ecs S',cs = [G A xs.length c]/\w.ownsRow 0 e T.size (G A xs.length c) xs.length ecs/\Rows T w ecs xs S'/\S=kj A++S'
 kZ:=by rintro _ _ _ _ ⟨A,c,rfl,_⟩;rfl
 ju:=by rintro _ _ _ _ ⟨A,c,_,_,rfl,_⟩;rfl
 lB:=by rintro _ _ _ _ ⟨A,c,_,_,rfl,_⟩ u hu;simp at hu;subst hu;rfl
 lU:=by rintro _ _ _ _ ⟨A,c,rfl,_⟩ u hu;simp at hu;subst hu;rfl
 iG:=by
  rintro w w' B B' cs xs ⟨A,c,rfl,h1,h2,h3,h4⟩ hk hB
  refine⟨A,c,rfl,h1,h2,h3,fun hp=>?_⟩
  obtain⟨g,off,rfl,hg,h5⟩:=h4 hp
  refine⟨g,off,rfl,by omega,fun i x hx=>?_⟩
  obtain⟨ec,h6,h7⟩:=h5 i x hx
  exact⟨ec,T.iG h6 hk hB,fun j u hu=>(World.cell?_of_block (hk g hg)).trans (h7 j u hu)⟩
 gD:=by
  rintro w w' cs xs S ⟨A,c,ecs,S',rfl,h1,h2,rfl⟩ hk
  refine⟨A,c,ecs,S',rfl,?_,Rows.fJ h2 (fun k hk'=>hk k (Rr _ hk')),rfl⟩
  refine⟨h1.1,?_⟩
  rcases h1.2 with h | ⟨g,cap,cur,hv,hb,hg,rest⟩
  ·exact .inl h
  ·have hv':=hv
   injection hv' with hA _ _
   subst hA
   exact .inr ⟨g,cap,cur,hv,hb,(hk g (by simp[kj])).trans hg,rest⟩
 ja:=by
  rintro w cs xs S ⟨A,c,ecs,S',rfl,h1,h2,rfl⟩ k hk
  rcases Q7.1 hk with hk | hk
  ·cases A with
   | none=>simp[kj] at hk
   | some a=>
    simp[kj] at hk
    exact(h1.lt k (by simp[SW,hk])).2
  ·exact Rows.lt h2 k hk
 OR:=by
  rintro w cs xs S B ⟨A,c,ecs,S',rfl,h1,h2,rfl⟩ hk
  obtain⟨hlen,hrest⟩:=h1
  rcases hrest with⟨hv,hn⟩ | ⟨g,cap,cur,hv,_,hg,hnc,hcm,hcs,htake⟩
  ·injection hv with hA _ hc
   subst hA hc
   exact⟨D,0,rfl,by omega,QX _,fun _=>rfl,fun hp=>by omega⟩
  ·injection hv with hA _ hc
   subst hA hc
   refine⟨_,_,rfl,hnc,by simpa[maxLen] using hcm,fun h=>by simp at h,fun _=>⟨g,0,rfl,hk g (by simp[kj]),fun i x hx=>?_⟩⟩
   obtain⟨ec,Sc,hO,hS,hget⟩:=Rows.get h2 hx
   refine⟨ec,T.OR hO (fun k hk'=>hk k (Rr _ (hS k hk'))),fun j u hu=>?_⟩
   rw[RV w g _ cur e (0,0) hg,Rk]
   have hj:=hget j u hu
   rw[<-htake,Sn] at hj
   split at hj
   ·simpa using hj
   ·cases hj
theorem lu {α:Type} {T:Ty α} {xs:Q α} (h:(T.sl e).R w B [v] xs):∃ A c,v=G A xs.length c/\xs.length<=c/\c<=9223372036854775807:=by
 obtain⟨A,c,h1,h2,h3,_⟩:=h;exact⟨A,c,by simpa using h1,h2,h3⟩
theorem nP {α:Type} {T:Ty α} {xs:Q α} (h:(T.sl e).R w B [G A n c] xs){k:Nat}(hk:k<xs.length) :
  ∃ g off x ec,A=Z ⟨g,off,D⟩/\g<B/\xs[k]?=Z x/\T.R w B ec x/\∀ j u,ec[j]?=Z u->QL w ⟨g,off+k*T.size+j,D⟩=Z u:=by
 obtain⟨A',c',h1,_,_,_,h5⟩:=h;obtain⟨g,off,rfl,hg,h6⟩:=h5 (by omega);injection h1 with h1 _
 injection h1 with h1 _ _
 have hx:xs[k]?=Z xs[k]:=QW hk;obtain⟨ec,h7,h8⟩:=h6 k _ hx;exact⟨g,off,xs[k],ec,h1,hg,hx,h7,h8⟩
theorem lI {xs:Q Int} (h:(zr.sl e).R w B [G A n c] xs){k:Nat}(hk:k<xs.length) :
  ∃ g off x,A=Z ⟨g,off,D⟩/\xs[k]?=Z x/\QL w ⟨g,off+k,D⟩=Z (J C x)/\-9223372036854775808<=x/\x<=9223372036854775807:=by
 obtain⟨g,off,x,ec,h1,_,h2,⟨rfl,b1,b2⟩,h4⟩:=nP h hk;have:=h4 0 _ rfl;simp only[zr,Tq,RK] at this;exact⟨g,off,x,h1,h2,this,b1,b2⟩
theorem vP {xs:Q N} (h:(iH.sl e).R w B [G A n c] xs){k:Nat}(hk:k<xs.length) :
  ∃ g off x,A=Z ⟨g,off,D⟩/\xs[k]?=Z x/\QL w ⟨g,off+k,D⟩=Z (V x)/\x.size<=9223372036854775807:=by
 obtain⟨g,off,x,ec,h1,_,h2,⟨rfl,b1⟩,h4⟩:=nP h hk;have:=h4 0 _ rfl;simp only[iH,Tq,RK] at this;exact⟨g,off,x,h1,h2,this,b1⟩
theorem zN (hg:w.heap[g]?=Z (F cur e (0,0)))(i:Nat)(u:Value):(w.setCell ⟨g,i,D⟩ u).heap[g]?=Z (F (cur.setIfInBounds i u) e (0,0)):=by
 simp[RQ,Uo,hg]
theorem qt {α:Type} {T:Ty α} {xs:Q α} (h:(T.sl e).O w [G A n c] xs S)(hS:S.Nodup){k:Nat}{x:α}(hx:xs[k]?=Z x) :
  ∃ g ec Sc,A=Z ⟨g,0,D⟩/\g∈S/\g<w.heap.size/\g∉Sc/\(∀ j∈Sc,j∈S)/\Sc.Nodup/\T.O w ec x Sc/\(∀ j,Rb w ⟨g,j,D⟩=I)/\(∀ j u,ec[j]?=Z u->QL w ⟨g,k*T.size+j,D⟩=Z u)/\
   (∀ j u y,j<T.size->u.oneCell'=M->T.O w (ec.set j u) y Sc->(T.sl e).O (w.setCell ⟨g,k*T.size+j,D⟩ u) [G A n c] (xs.set k y) S/\fw S w (w.setCell ⟨g,k*T.size+j,D⟩ u))/\
   (∀ w' y,fw Sc w w'->T.O w' ec y Sc->(T.sl e).O w' [G A n c] (xs.set k y) S):=by
 obtain⟨A',c',aj,S',h1,h2,h3,rfl⟩:=h;injection h1 with h1 _
 injection h1 with hA hn hc
 subst hA hn hc;have hk:k<xs.length:=(QM.1 hx).1;obtain⟨a,ec,b,Sa,Sc,Sb,rfl,rfl,hl,ha,hO,hb⟩:=Rows.part h3 hx;obtain⟨a5,a6⟩:=h2;rcases a6 with⟨_,hn⟩ | ⟨g,ai,a3,hv,a2,hg,ae,ab,ac,a1⟩
 ·omega
 ·injection hv with hA _ hc
  subst hA hc;have ad:g<w.heap.size:=(blt hg)
  simp only[kj,List.singleton_append,TA,Rs,Q7,not_or] at hS;obtain⟨⟨ag,a8,ah⟩,am,⟨aa,an,a7⟩,af⟩:=hS;have ak:ec.length=T.size:=T.ju hO
  have al:(a++(ec++b)).length<=a3.size:=by
   rw[<-a1,Sj];have:a3.toList.length=a3.size:=RM;omega
  have a4:∀(j:Nat) (u:Value),(a++(ec++b))[j]?=Z u->a3[j]?=Z u:=by
   intro j u hu;rw[<-a1,Sn] at hu;split at hu
   ·simpa using hu
   ·cases hu
  refine⟨g,ec,Sc,rfl,by simp[kj],ad,a8,fun j hj=>by simp[hj],aa,hO,fun j=>by simp[Rb,hg],fun j u hu=>?_,fun j u y hj h1 hy=>?_,fun w' y ho hy=>?_⟩
  ·rw[RV w g _ a3 e (0,0) hg]
   apply a4;exact rM
  ·have a0:∀ i,i≠g->(w.setCell ⟨g,k*T.size+j,D⟩ u).heap[i]?=w.heap[i]?:=fun i hi=>Uz w _ u i hi
   refine⟨⟨Z ⟨g,0,D⟩,c,a++(ec.set j u++b),_,by rw[Rn],⟨?_,.inr ⟨g,c,a3.setIfInBounds (k*T.size+j) u,by rw[Rn],a2,zN hg _ _,by simpa using ae,ab,by simpa using ac,?_⟩⟩,Rows.join hx (Rows.fJ ha ?_) (T.gD hy ?_) (Rows.fJ hb ?_),rfl⟩,?_⟩
   ·rw[Rn,<-a5]
    simp
   ·rw[Rn,Array.toList_setIfInBounds,List.take_set,a1,Up _ _ (by omega),hl,Nat.add_sub_cancel_left,List.set_append_left _ _ (by omega)]
   ·exact fun i hi=>a0 i (fun e=>ag (e ▸ hi))
   ·exact fun i hi=>a0 i (fun e=>a8 (e ▸ hi))
   ·exact fun i hi=>a0 i (fun e=>ah (e ▸ hi))
   ·exact(fw.refl _ _).setCell (by simp[kj]) u
  ·have a9:∀ i,i<w.heap.size->i∉Sc->w'.heap[i]?=w.heap[i]?:=ho.block
   refine⟨Z ⟨g,0,D⟩,c,a++(ec++b),_,by rw[Rn],⟨by rw[Rn,<-a5],.inr ⟨g,c,a3,by rw[Rn],a2,(a9 g ad a8).trans hg,by simpa using ae,ab,ac,by rw[Rn];exact a1⟩⟩,Rows.join hx (Rows.fJ ha ?_) hy (Rows.fJ hb ?_),rfl⟩
   ·exact fun i hi=>a9 i (Rows.lt ha i hi) (fun hc=>af i hi i (.inl hc) rfl)
   ·exact fun i hi=>a9 i (Rows.lt hb i hi) (fun hc=>a7 i hc i hi rfl)
theorem JW (w:U)(n:Nat):ft w (w.drewN n):=by
 induction n with
 | zero=>exact ft.refl _
 | succ n ih=>exact ih.drew
theorem ft.drewN {a b:U}(h:ft a b)(n:Nat):ft a (b.drewN n):=h.trans (JW _ _)
theorem vO {α:Type} {xs:Q α} {x:α} (h:xs[k]?=Z x):xs.take (k+1)=xs.take k++[x]:=by
 rw[RH,h];rfl
theorem zd {a:Ri} (h:w.cell? a=Z v)(os:Array Obj)(d:Nat):(fx w os d).cell? a=Z v:=by
 have hb:=RE w a h;rw[<-h];simp only[QL,wS os d _ hb]
theorem zk {a:Ri} (h:w.cell? a=Z v)(o:Obj):(w.alloc o).cell? a=Z v:=by
 rw[Eb];exact zd h _ _
theorem zc {a:Ri} (h:w.cell? a=Z v):w.drew.cell? a=Z v:=h
def fU {α:Type}(T:Ty α)(w w':U)(cs:Q Value)(x:α):Prop:=∃ S,T.O w' cs x S/\S.Nodup/\∀ b∈S,w.heap.size<=b
theorem fU.fx {α:Type} {T:Ty α} {x:α} (h:fU T w w1 cs x)(hg:ft w1 w2):fU T w w2 cs x:=by
 obtain⟨S,h1,h2,h3⟩:=h;exact⟨S,T.jg h1 hg,h2,h3⟩
theorem fU.read {α:Type}{T:Ty α}{w w1:U}{cs:Q Value}{x:α}(h:fU T w w1 cs x):T.R w1 w1.heap.size cs x:=by
 obtain⟨S,h1,_,_⟩:=h;exact T.read h1
def kC {α:Type}(T:Ty α)(W0:U)(hi:Nat)(W:U)(cs:Q Value)(x:α):Prop:=∃ S,T.O W cs x S/\S.Nodup/\∀ b∈S,W0.heap.size<=b/\b<hi
theorem fU.nH {α:Type} {T:Ty α} {x:α} (h:fU T w w1 cs x):kC T w w1.heap.size w1 cs x:=by
 obtain⟨S,h1,h2,h3⟩:=h;exact⟨S,h1,h2,fun b hb=>⟨h3 b hb,T.ja h1 b hb⟩⟩
theorem kC.fresh {α:Type} {T:Ty α} {x:α} (h:kC T w hi w1 cs x):fU T w w1 cs x:=by
 obtain⟨S,h1,h2,h3⟩:=h;exact⟨S,h1,h2,fun b hb=>(h3 b hb).1⟩
theorem kC.same {α:Type} {T:Ty α} {x:α} (h:kC T w hi w1 cs x)(hs:hU w.heap.size hi w1 w2):kC T w hi w2 cs x:=by
 obtain⟨S,h1,h2,h3⟩:=h;exact⟨S,T.gD h1 (fun k hk=>hs k (h3 k hk).1 (h3 k hk).2),h2,h3⟩
theorem kC.fx {α:Type} {T:Ty α} {x:α} (h:kC T w hi w1 cs x)(hg:ft w1 w2):kC T w hi w2 cs x:=by
 obtain⟨S,h1,h2,h3⟩:=h;exact⟨S,T.jg h1 hg,h2,h3⟩
theorem kC.up {α:Type} {T:Ty α} {hi':Nat} {x:α} (h:kC T w hi w1 cs x)(hh:hi<=hi'):kC T w hi' w1 cs x:=by
 obtain⟨S,h1,h2,h3⟩:=h;exact⟨S,h1,h2,fun b hb=>⟨(h3 b hb).1,QS (h3 b hb).2 hh⟩⟩
theorem kC.read {α:Type}{T:Ty α}{w w1:U}{hi:Nat}{cs:Q Value}{x:α}(h:kC T w hi w1 cs x):T.R w1 w1.heap.size cs x:=h.fresh.read
def oA {α:Type}(T:Ty α)(W0:U)(hi n:Nat)(W:U)(cs:Q Value)(x:α):Prop:=∃ S,T.O W cs x S/\S.Nodup/\∀ b∈S,(W0.heap.size<=b/\b<hi)∨n<=b
theorem oA.fresh {α:Type} {T:Ty α} {x:α} (h:oA T w hi n w1 cs x)(hn:w.heap.size<=n):fU T w w1 cs x:=by
 obtain⟨S,h1,h2,h3⟩:=h;exact⟨S,h1,h2,fun b hb=>by have:=h3 b hb;omega⟩
theorem oA.same {α:Type} {T:Ty α} {x:α} (h:oA T w hi n w1 cs x)(hs:hU w.heap.size hi w1 w2)(ht:hU n w1.heap.size w1 w2):oA T w hi n w2 cs x:=by
 obtain⟨S,h1,h2,h3⟩:=h;refine⟨S,T.gD h1 (fun k hk=>?_),h2,h3⟩;rcases h3 k hk with h | h
 ·exact hs k h.1 h.2
 ·exact ht k h (T.ja h1 k hk)
theorem oA.nH {α:Type}{T:Ty α}{w w1:U}{hi n:Nat}{cs:Q Value}{x:α}(h:oA T w hi n w1 cs x)(hn:w.heap.size<=n):kC T w w1.heap.size w1 cs x:=(h.fresh hn).nH
theorem pS {α:Type} {T:Ty α} {xs:Q α} (hg:w.heap[g]?=Z (F cur e (0,0)))(hr:Rows T w cur.toList xs S)(hm:xs.length<=9223372036854775807) :
  (T.sl e).O w [G (Z ⟨g,0,D⟩) xs.length xs.length] xs (g::S):=by
 have hl:=hr.len;rw[RM] at hl;refine⟨_,_,cur.toList,S,rfl,⟨by rw[RM];exact hl,.inr ⟨g,xs.length,cur,rfl,QX _,hg,Q8 _,by simpa[maxLen] using hm,hl,?_⟩⟩,hr,rfl⟩;rw[R7];rw[RM];omega
theorem DE (t e:TypeId)(i:TypeInfo)(z:Value)(ht:P.underlying t=Z (.slice e))(hi:P.info? e=Z i)(hz:i.zero=Z z)
  (kl kc:IntKind) (n c:Nat) (hnc:n<=c) (hbytes:i.bytes*c<=281474976710656) (h63:c<=9223372036854775807) (w:U) :
  (Instr.makeSlice t (J kl (n:Int)) (J kc (c:Int))).run P w=.ok (G (Z ⟨w.heap.size,0,D⟩) n c) (w.alloc (F (R4 z.cells (c*i.size)) e)):=by
 have hb:(i.bytes:Int)*(c:Int)<=281474976710656:=by
  have h:((i.bytes*c:Nat):Int)<=281474976710656:=by omega
  rwa [Int.natCast_mul] at h
 have hr:=run_make (P:=P) w t e i z ht hi hz kl kc n c (by omega) (by omega) hb (by omega);simp only[Ra] at hr;exact hr
theorem Eg {x y:N}:x.toList=y.toList↔x=y:=by
 rw[Ub,Ub];constructor
 ·intro h
  cases x;cases y;simpa using h
 ·rintro rfl
  rfl
theorem lp (x y:N):(x.toList == y.toList)=decide (x=y):=by
 rw[Ut];simp only[Rt,Eg,Rg]
theorem Pp {α:Type} {T:Ty α} {xs:Q α} (h:(T.sl e).R w B [G A n c] xs)(hk:k<=n) :
  (T.sl e).R w B [G A k c] (xs.take k):=by
 obtain⟨A',c',h1,h2,h3,h4,h5⟩:=h;injection h1 with h1 _
 injection h1 with hA hn hc
 subst hA hn hc;have hl:(xs.take k).length=k:=by rw[Sj];omega
 refine⟨A,c,by rw[hl],by rw[hl];omega,h3,h4,fun hp=>?_⟩;rw[hl] at hp;obtain⟨g,a0,rfl,hg,h6⟩:=h5 (by omega);refine⟨g,a0,rfl,hg,fun i x hx=>?_⟩;rw[Sn] at hx;split at hx
 ·exact h6 i x hx
 ·cases hx
theorem Qr {QJ Y:Nat} (_:∀ b∈S,QJ<=b)(h:∀ b∈S',Y<=b)(hxy:QJ<=Y):∀ b∈S',QJ<=b:=fun b hb=>Rj hxy (h b hb)
theorem I1 {A B:Q Nat} (h:(A++B).Nodup):A.Nodup/\B.Nodup/\(∀ k∈A,k∉B)/\(∀ k∈B,k∉A):=by
 rw[Rs] at h;exact⟨h.1,h.2.1,fun k ha hb=>h.2.2 k ha k hb rfl,fun k hb ha=>h.2.2 k ha k hb rfl⟩
theorem gG (h:ft a b:=by repeat with_reducible first | exact .refl _ | exact .ld _ _ _ | exact .kt _ _ _ _ | assumption | apply ft.more | apply ft.alloc | apply ft.drew | apply ft.drewN):ft a b:=h
theorem gF (h:ft a b:=by(repeat with_reducible first | exact .refl _ | exact .ld _ _ _ | exact .kt _ _ _ _ | assumption | apply ft.more | apply ft.alloc | apply ft.drew | apply ft.drewN);done):ft a b:=h
open Go.RowKit Go.WideShapes Go.ChangeShapes
def Bg (P:Program)(t:TypeId){α:Type}(T:Ty α):Prop:=
 ∀(QG:Type) (enc:TypeId × Value->QG) (W:U) (spare:Nat->Bool) (held:Bool) (fuel:Nat) (cs:Q Value) (x:DataW QG × Q MemPlace),
  DataW.trod enc P W 0 spare held fuel t cs=Z x->∃ a,T.R W W.heap.size cs a
section
variable {P:Program} {t:TypeId}
theorem ON {α:Type} {T:Ty α} {e':TypeId} (ht:P.underlying t=Z (.slice e))(hs:P.cellsOf e=T.size)(h0:0<T.size)(he:Bg P e T):Bg P t (T.sl e'):=by
 intro QG ao W ab aj ae cs x h;rcases Go.Deep.open_slice ht h with⟨rfl,_⟩ | ⟨a,len,ac,m,n,QA,Pl,rfl,_,hl,hc,hm,_,hi⟩
 ·exact⟨[],D,0,rfl,Q8 _,QX _,fun _=>rfl,fun hp=>by simp at hp⟩
 ·have ap:len<=m:=by rw[hm];split <;> omega
  have ai:∀ n',n'<=len->∃ xs:Q α,xs.length=n'/\∀ i y,xs[i]?=Z y->∃ ec,T.R W W.heap.size ec y/\∀(j:Nat) (u:Value),ec[j]?=Z u->W.cell? ((a.add (i*T.size)).add j)=Z u:=by
   intro n';induction n' with
   | zero=>exact fun _=>⟨[],rfl,fun i y hy=>by simp at hy⟩
   | succ n' ih=>
    intro hn;obtain⟨xs,a4,a5⟩:=ih (by omega);obtain⟨ec,ah,an⟩:=hi n' (by omega);obtain⟨y,hy⟩:=he _ _ _ _ _ _ _ _ an;refine⟨xs++[y],by simp[a4],fun i z hz=>?_⟩;rw[List.getElem?_append] at hz;split at hz
    ·exact a5 i z hz
    ·rename_i hnl
     have al:=(QM.1 hz).1;simp at al;have ak:i=n':=by omega
     subst ak;rw[a4,RP] at hz;simp at hz;subst hz;refine⟨ec,hy,fun j u hu=>?_⟩;obtain⟨_,a7,a9⟩:=World.cells?_some ah;rw[hs] at a9 a7;rw[a9 j (by have:=(QM.1 hu).1;omega),hu]
  obtain⟨xs,a4,a5⟩:=ai len (Q8 _);subst a4;refine⟨xs,Z a,ac,rfl,hl,by simpa[maxLen] using hc,fun h=>by simp at h,fun hp=>?_⟩;obtain⟨ec,hR,a1⟩:=a5 0 xs[0] (QW hp);have a6:0<ec.length:=by rw[T.kZ hR];exact h0
  have af:=a1 0 ec[0] (QW a6);obtain⟨g,aa,a3⟩:=a;have a8:QL W ⟨g,aa,a3⟩=Z ec[0]:=by simpa[Addr.add] using af
  have a2:a3=D:=World.cell?_spot a8;subst a2;have am:=RE W _ a8;refine⟨g,aa,rfl,am,fun i y hy=>?_⟩;obtain⟨ad,ag,a0⟩:=a5 i y hy;refine⟨ad,ag,fun j u hu=>?_⟩;have:=a0 j u hu;rw[TM,TM] at this;exact this
theorem NG {QG:Type} {enc:TypeId × Value->QG} {spare:Nat->Bool} {held:Bool} {d:DataW QG} {p:Q MemPlace} {α:Type} {T:Ty α} (ho:Bg P t T)(h:DataW.Trod enc P W 0 spare held t v d p):∃ a,T.R W W.heap.size v.cells.toList a:=by
 obtain⟨a0,hf⟩:=h;exact ho _ _ _ _ _ _ _ _ hf
theorem Mc {r:Reach} {b0:Nat} (ht:P.underlying t=Z (.slice e))(hv:Value.okWide P W r b0 t v):v.cells.toList = [v]:=by
 obtain⟨a,l,c,rfl⟩:=okWide_slice ht hv;rfl
end
def fT (x a b:Int):Bool:=decide (a<=x) && decide (x<=b)
theorem zu {a b:Int}:fT x a b=M↔a<=x/\x<=b:=by simp[fT]
theorem pU {a b:Int} (h1:a<=x)(h2:x<=b):fT x a b=M:=zu.2 ⟨h1,h2⟩
theorem rS {n:Int} (h1 : -9223372036854775808<=n)(h2:n<=9223372036854775807):Sf n=n:=IntWalk.wrap64_in n ⟨h1,h2⟩
theorem zo {a b:Bool} (h:a=b):SN (H a)=.returned (H b):=by rw[h]
theorem nN {a b:Int} (h:a=b):SN (J C a)=.returned (J C b):=by rw[h]
theorem Ia (x a b:Int)(h:a<=x):decide (x<=b)=fT x a b:=by simp[fT,h]
theorem Ib (x a b:Int)(h:x<a):I=fT x a b:=by simp[fT];omega
theorem lP (x a b:Int)(w:U):Rh prog 38 #[J C x,J C a,J C b] w fun e w'=>e=.returned (H (fT x a b))/\w=w':=by
 go_enter func38,ntmps38;go_wp2
 ·go_ret
  exact⟨zo (Ia x a b ‹_›),rfl⟩
 ·go_ret
  exact⟨zo (Ib x a b ‹_›),rfl⟩
theorem gY (x a b:Int)(w:U):Rh prog 43 #[J C x,J C a,J C b] w fun e w'=>e=.returned (H (fT x a b))/\w=w':=by
 go_enter func43,ntmps43;go_wp2
 ·go_ret
  exact⟨zo (Ia x a b ‹_›),rfl⟩
 ·go_ret
  exact⟨zo (Ib x a b ‹_›),rfl⟩
theorem BX {f:FuncId} {args:Array Value}
  (h:Rh P f args (w.drewN n) fun e w'=>e=.returned v/\w.drewN n=w'):Rh P f args (w.drewN n) fun e w''=>e=.returned v/\∃ m,w''=w.drewN m:=
 h.mono fun _ _ ⟨he,hm⟩=>⟨he,n,hm.symm⟩
theorem IT {a b:Int} {v:Bool} (h:fT x a b=v)(w:U)(n:Nat):Rh prog 38 #[J C x,J C a,J C b] (w.drewN n) fun e w''=>e=.returned (H v)/\∃ m,w''=w.drewN m:=by
 subst h;exact BX (lP _ _ _ _)
theorem vU {a b:Int} {v:Bool} (h:fT x a b=v)(w:U)(n:Nat):Rh prog 43 #[J C x,J C a,J C b] (w.drewN n) fun e w''=>e=.returned (H v)/\∃ m,w''=w.drewN m:=by
 subst h;exact BX (gY _ _ _ _)
end Go.Proofs.YthgbglbaemelhaaGreat
