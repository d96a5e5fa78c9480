/-
  The law FnCounted answers true for every input: counts add up, whatever the order in which stacks are added; the input stays. No condition.
-/
import Derived.Test.YtdlkoffandhclaaDoorBytes
import Derived.Test.YtdlkoffandhclaaDoorAppend2
import Derived.Test.YtdlkoffandhclaaDoorBox2
import Derived.Test.YtdlkoffandhclaaDoorOpen
import Derived.BigQuiet
import Derived.Deep.RegionHeld3
import Derived.Test.YtdlkoffandhclaaDoorPathLaw
import Derived.Test.YtdlkoffandhclaaDoorBackLaw
import Derived.Test.YtdlkoffandhclaaDoorTidy
import Derived.Test.YtdlkoffandhclaaDoorRowsPut
import Derived.Test.YtdlkoffandhclaaDoorOwn
import Derived.Test.YtdlkoffandhclaaDoorLists
import Derived.Test.YtdlkoffandhclaaDoorRing
import Derived.Test.YtdlkoffandhclaaDoorStacks3
import Derived.Deep.RegionWith
import Derived.Deep.RegionLaw
import Derived.Test.YtdlkoffandhclaaDoorSameP
import Derived.Test.YtdlkoffandhclaaDoorLsFrame
import Derived.Test.YtdlkoffandhclaaDoorStacks
import Derived.Test.YtdlkoffandhclaaDoorProfile2
import Derived.Test.YtdlkoffandhclaaDoorRows
import Derived.Test.YtdlkoffandhclaaDoorBox4
import Derived.Test.YtdlkoffandhclaaDoorTie
import Derived.Test.YtdlkoffandhclaaDoorCards
import Derived.LaidMore
import Derived.Stop.Joined
import Derived.SevenTiedAt
import Derived.ShutString
import Derived.Deep.CutRange
set_option linter.unusedVariables false
set_option linter.unusedSimpArgs false
namespace Go.Proofs.YtdlkoffandhclaaDoor
open Go.RowKit
/-- the part below a block number -/
def cut (W : World) (n : Nat) : World := { W with heap := W.heap.extract 0 n }
theorem cut_size {W : World} {n : Nat} (h : n ≤ W.heap.size) : (cut W n).heap.size = n := by
  simp only [cut, Array.size_extract]
  omega
theorem cut_get {W : World} {n i : Nat} (h : n ≤ W.heap.size) (hi : i < n) : (cut W n).heap[i]? = W.heap[i]? := by
  simp only [cut]
  rw [Array.getElem?_extract, if_pos (by omega), Nat.zero_add]
theorem cut_gro {W : World} {n : Nat} (h : n ≤ W.heap.size) : Gro (cut W n) W :=
  Gro.of_below ⟨rfl, rfl, rfl, by rw [cut_size h]; exact h, fun k hk => by rw [cut_size h] at hk; exact (cut_get h hk).symm⟩
theorem Gro.cut {w W : World} {n : Nat} (h : Gro w W) (hn : w.heap.size ≤ n) (h2 : n ≤ W.heap.size) : Gro w (cut W n) := by
  have hb := h.below
  exact Gro.of_below ⟨hb.os, hb.tape, hb.output, by rw [cut_size h2]; exact hn, fun k hk => by rw [cut_get h2 (by omega)]; exact hb.block k hk⟩
theorem cell_up {a b : World} (h : Gro a b) {p : Addr} {v : Value} (hp : a.cell? p = some v) : b.cell? p = some v := by
  obtain ⟨os, d, rfl⟩ := h
  exact gro_keeps hp os d
/-- a cursor's block -/
structure Cur (w W : World) (k : Nat) : Prop where
  lo : w.heap.size ≤ k
  gro : Gro w W
  at_ : ∃ (A : Option Addr) (n c : Nat) (i h : Int) (xs : List UInt8), W.heap[k]? = some (.cells #[.slice A n c, .int .i64 i, .int .i64 h] 59 (0, 0)) ∧ 0 ≤ i ∧ I64 i ∧ I64 h ∧ (byteT.sl 5).R w w.heap.size [.slice A n c] xs
theorem Cur.lt {w W : World} {k : Nat} (h : Cur w W k) : k < W.heap.size := by
  obtain ⟨_, _, _, _, _, _, h1, _⟩ := h.at_
  exact (Array.getElem?_eq_some_iff.1 h1).1
/-- a world that has the cursor's block and grows from the same beginning -/
theorem Cur.to {w W W' : World} {k : Nat} (h : Cur w W k) (hb : W'.heap[k]? = W.heap[k]?) (hg : Gro w W') : Cur w W' k := by
  obtain ⟨A, n, c, i, h', xs, h1, h2⟩ := h.at_
  exact ⟨h.lo, hg, A, n, c, i, h', xs, by rw [hb]; exact h1, h2⟩
theorem Cur.more {w W W' : World} {k : Nat} (h : Cur w W k) (hg : Gro W W') : Cur w W' k := h.to (hg.block h.lt) (h.gro.trans hg)
theorem Cur.only {w W W' : World} {k : Nat} {S : List Nat} (h : Cur w W k) (hs : OnlyS S W W') (hk : k ∉ S) (hS : ∀ b ∈ S, w.heap.size ≤ b) : Cur w W' k := h.to (hs.block k h.lt hk) (hs.gro h.gro hS)
theorem Cur.below {w W W' : World} {k lo : Nat} (h : Cur w W k) (hb : Below lo W W') (hk : k < lo) : Cur w W' k :=
  h.to (hb.block k hk) (Gro.of_below (h.gro.below.trans (hb.mono (by have := h.lo; omega))))
theorem OnlyS.below {S : List Nat} {a W W' : World} {lo : Nat} (h : OnlyS S a W) (hb : Below lo W W') (hl : a.heap.size ≤ lo) : OnlyS S a W' :=
  ⟨hb.os.trans h.os, hb.tape.trans h.tape, hb.output.trans h.output, Nat.le_trans h.size hb.size, fun i hi hn => (hb.block i (by omega)).trans (h.block i hi hn)⟩
theorem FrN.only {α : Type} {T : Ty α} {lo hi k : Nat} {a b : World} {cs : List Value} {x : α} (h : FrN T lo hi a cs x) (hs : OnlyS [k] a b) (hk : k < lo) : FrN T lo hi b cs x := by
  obtain ⟨S, h1, h2, h3⟩ := h
  exact ⟨S, T.keepO h1 (fun j hj => hs.block j (T.ltO h1 j hj) (by have := h3 j hj; simp; omega)), h2, h3⟩
section
variable {α : Type} {T : Ty α} {e : TypeId} {P : Program} {t : TypeId} {bytes : Nat} {ops : Array Oper} {rest : List Oper} {o : Oper} {a : Act} {Q : Exit → Act → World → Prop} {K : Act → World → Prop}
/-- 'append(own, v)' in a world of which the own blocks' beginning alone is known -/
theorem run_append_up (hE : Elem P t e T bytes) {ty : TypeId} {W We : World} {lo hi g cc : Nat} {A : Option Addr} {n c : Nat} {xs : List α} (h : FrN (T.sl e) lo hi W [.slice A n c] xs) (hlo : lo ≤ W.heap.size)
    {ec : List Value} {y : α} (hy : Fresh T We W ec y) (hhi : hi ≤ We.heap.size) (hle : lo ≤ We.heap.size) (hcell : ∀ (j : Nat) (u : Value), ec[j]? = some u → W.cell? ⟨g, j, none⟩ = some u)
    {L : Nat} (hL : L = n + 1) (hb : L * bytes ≤ 140737488355328) (h63 : L ≤ 9223372036854775807) :
    ∃ A' c'' W', (Builtin.append_ #[t, t] ty #[.slice A n c, .slice (some ⟨g, 0, none⟩) 1 cc]).run P W = .ok (.slice A' L c'') W' ∧ Below lo W W' ∧ FrN (T.sl e) lo W'.heap.size W' [.slice A' L c''] (xs ++ [y]) := by
  obtain ⟨S, h1, h2, h3⟩ := h
  have hf : Fre (T.sl e) (cut W lo) hi W [.slice A n c] xs := ⟨S, h1, h2, fun b hb => by rw [cut_size hlo]; exact h3 b hb⟩
  have hg : Gro (cut W lo) W := cut_gro hlo
  obtain ⟨A', c'', W', hrun, ⟨row, hgr, hrow⟩, hF⟩ := run_append_one (P := P) (ty := ty) (W0 := cut W lo) (We := We) (m0 := lo) hE hlo hle hf hy hhi (by rw [cut_size hlo]; exact hle) hcell hL hb h63
  have hg2 := hg.grown hgr (fun k hk => (hrow k hk).1)
  have hb2 := hg2.below
  rw [cut_size hlo] at hb2
  obtain ⟨S2, k1, k2, k3⟩ := hF
  refine ⟨A', c'', W', hrun, ⟨hb2.os, hb2.tape, hb2.output, hgr.size, fun i hi => (hb2.block i hi).trans (cut_get hlo hi)⟩, S2, k1, k2, fun b hb => ⟨?_, (T.sl e).ltO k1 b hb⟩⟩
  rcases k3 b hb with h | h
  · rw [cut_size hlo] at h
    exact h.1
  · exact h
theorem step_append_up {E : Prop} (hgd : o.guard = none) (s x : Operand) (hE : Elem P t e T bytes) (hf : Flat T) {W W1 : World} {lo hi B g cc : Nat} {A : Option Addr} {n c : Nat} {xs : List α} (h : FrN (T.sl e) lo hi W [.slice A n c] xs) (hlo : lo ≤ W.heap.size) (hhi : hi ≤ W.heap.size)
    {ec : List Value} {y : α} (hy : T.R W1 B ec y)
    (ho : o.op = .call { callee := .builtin .append, args := #[s, x], argTypes := #[t, t] }) (hs : a.eval s = .slice A n c) (hx : a.eval x = .slice (some ⟨g, 0, none⟩) 1 cc)
    (hcell : ∀ (j : Nat) (u : Value), ec[j]? = some u → W.cell? ⟨g, j, none⟩ = some u)
    {L : Nat} (hL : L = n + 1) (hb : L * bytes ≤ 140737488355328) (h63 : L ≤ 9223372036854775807)
    (hK : ∀ A' c'' W', Below lo W W' → FrN (T.sl e) lo W'.heap.size W' [.slice A' L c''] (xs ++ [y]) → K (a.put o.dst (.slice A' L c'')) W') : if Region.wanted o (yielded ops a.tmps) = true then Oper.wp P o a W K Q else E := by
  have hw : Region.wanted o (yielded ops a.tmps) = true := by simp [Region.wanted, hgd]
  rw [if_pos hw]
  obtain ⟨A', c'', W', hrun, hbl, hF⟩ := run_append_up (P := P) (ty := o.type) hE h hlo (We := W) (fresh_flat hf hy) hhi hlo hcell hL hb h63
  exact wp_of_run_append s x ho hs hx hrun (hK A' c'' W' hbl hF)
theorem wpList_append_up (hgd : o.guard = none) (s x : Operand) (hE : Elem P t e T bytes) {W We : World} {lo hi g cc : Nat} {A : Option Addr} {n c : Nat} {xs : List α} (h : FrN (T.sl e) lo hi W [.slice A n c] xs) (hlo : lo ≤ W.heap.size)
    {ec : List Value} {y : α} (hy : Fresh T We W ec y) (hhi : hi ≤ We.heap.size) (hle : lo ≤ We.heap.size)
    (ho : o.op = .call { callee := .builtin .append, args := #[s, x], argTypes := #[t, t] }) (hs : a.eval s = .slice A n c) (hx : a.eval x = .slice (some ⟨g, 0, none⟩) 1 cc)
    (hcell : ∀ (j : Nat) (u : Value), ec[j]? = some u → W.cell? ⟨g, j, none⟩ = some u)
    {L : Nat} (hL : L = n + 1) (hb : L * bytes ≤ 140737488355328) (h63 : L ≤ 9223372036854775807)
    (hK : ∀ A' c'' W', Below lo W W' → FrN (T.sl e) lo W'.heap.size W' [.slice A' L c''] (xs ++ [y]) → wpList P ops Q rest (a.put o.dst (.slice A' L c'')) W') : wpList P ops Q (o :: rest) a W :=
  wpList_plain hgd fun K hKK => by
    obtain ⟨A', c'', W', hrun, hbl, hF⟩ := run_append_up (P := P) (ty := o.type) hE h hlo hy hhi hle hcell hL hb h63
    exact wp_of_run_append s x ho hs hx hrun (hKK _ _ (hK A' c'' W' hbl hF))
end
end Go.Proofs.YtdlkoffandhclaaDoor
namespace Go.Proofs.YtdlkoffandhclaaDoor
open Go.RowKit
theorem opens_byte {P : Program} {t : TypeId} (ht : P.underlying t = some (.int .u8)) : Opens P t byteT := by
  intro H enc W spare held fuel cs x h
  obtain ⟨n, rfl, _, hw⟩ := DataW.trod_int ht h
  have h1 : 0 ≤ n ∧ n ≤ 255 := by simpa [Lit.wf, IntKind.min, IntKind.max, IntKind.signed, IntKind.bits] using hw
  exact ⟨_, byte_mkR h1.1 (by omega)⟩
theorem and255 (a : Int) : ∃ n : Nat, bits .and .i64 a 255 = (n : Int) ∧ n < 256 := by
  refine ⟨((BitVec.ofInt 64 a &&& BitVec.ofInt 64 255).toNat), ?_, ?_⟩
  · show IntKind.i64.wrap ((BitVec.ofInt 64 a &&& BitVec.ofInt 64 255).toNat : Int) = _
    rw [BitVec.toNat_and, show (BitVec.ofInt 64 255).toNat = 2 ^ 8 - 1 from rfl, Nat.and_two_pow_sub_one_eq_mod]
    exact IntWalk.i64_in _ ⟨by omega, by omega⟩
  · rw [BitVec.toNat_and, show (BitVec.ofInt 64 255).toNat = 2 ^ 8 - 1 from rfl, Nat.and_two_pow_sub_one_eq_mod]
    omega
theorem cur_cells {W : World} {k : Nat} {a b c : Value} (h : W.heap[k]? = some (.cells #[a, b, c] 59 (0, 0))) :
    W.cell? ⟨k, 0, none⟩ = some a ∧ W.cell? ⟨k, 1, none⟩ = some b ∧ W.cell? ⟨k, 2, none⟩ = some c ∧ (∀ j, W.frozen? ⟨k, j, none⟩ = false) := by
  refine ⟨?_, ?_, ?_, fun j => by simp [World.frozen?, h]⟩
  all_goals
    rw [cell_of_row W k _ _ _ (0, 0) h]
    rfl
theorem and_i64 (a b : Int) : I64 (bits .and .i64 a b) := by
  show I64 (IntKind.i64.wrap _)
  rw [IntKind.wrap_i64]
  constructor <;> omega
theorem wrap64_i64 (n : Int) : I64 (wrap64 n) := by
  unfold wrap64
  constructor <;> omega
/-- the cursor written, and nothing else -/
structure CurS (w W0 W : World) (k : Nat) (A : Option Addr) (n c : Nat) (i h : Int) : Prop where
  lo : w.heap.size ≤ k
  gro : Gro w W
  only : OnlyS [k] W0 W
  blk : W.heap[k]? = some (.cells #[.slice A n c, .int .i64 i, .int .i64 h] 59 (0, 0))
  i0 : 0 ≤ i
  i1 : I64 i
  h1 : I64 h
  read : ∃ xs, (byteT.sl 5).R w w.heap.size [.slice A n c] xs
theorem CurS.out {w W0 W : World} {k : Nat} {A : Option Addr} {n c : Nat} {i h : Int} (H : CurS w W0 W k A n c i h) : Cur w W k ∧ OnlyS [k] W0 W := by
  obtain ⟨xs, hx⟩ := H.read
  exact ⟨⟨H.lo, H.gro, A, n, c, i, h, xs, H.blk, H.i0, H.i1, H.h1, hx⟩, H.only⟩
theorem CurS.seth {w W0 W : World} {k : Nat} {A : Option Addr} {n c : Nat} {i h h' : Int} (H : CurS w W0 W k A n c i h) (hb : I64 h') : CurS w W0 (W.setCell ⟨k, 2, none⟩ (.int .i64 h')) k A n c i h' :=
  ⟨H.lo, H.gro.setRow (p := ⟨k, 2, none⟩) H.lo _, H.only.setCell (p := ⟨k, 2, none⟩) (by simp) _, heap_setCell_at H.blk 2 _, H.i0, H.i1, hb, H.read⟩
theorem CurS.seti {w W0 W : World} {k : Nat} {A : Option Addr} {n c : Nat} {i h i' : Int} (H : CurS w W0 W k A n c i h) (hb0 : 0 ≤ i') (hb : I64 i') : CurS w W0 (W.setCell ⟨k, 1, none⟩ (.int .i64 i')) k A n c i' h :=
  ⟨H.lo, H.gro.setRow (p := ⟨k, 1, none⟩) H.lo _, H.only.setCell (p := ⟨k, 1, none⟩) (by simp) _, heap_setCell_at H.blk 1 _, hb0, hb, H.h1, H.read⟩
theorem CurS.drewN {w W0 W : World} {k : Nat} {A : Option Addr} {n c : Nat} {i h : Int} (H : CurS w W0 W k A n c i h) (m : Nat) : CurS w W0 (W.drewN m) k A n c i h :=
  ⟨H.lo, H.gro.drewN m, H.only.trans ((Gro.drewN (Gro.refl _) m).only _), H.blk, H.i0, H.i1, H.h1, H.read⟩
set_option maxRecDepth 100000 in
theorem byte_s {w W : World} {k : Nat} (hC : Cur w W k) : Calls Tryd.prog 23 #[.pointer (some ⟨k, 0, none⟩)] W fun e W' => ∃ x : Nat, e = .returned (.int .i64 (x : Int)) ∧ x < 256 ∧ Cur w W' k ∧ OnlyS [k] W W' := by
  obtain ⟨hlo, hgr, A, n, c, i, h, xs, hk, hi0, hi1, hh, hx⟩ := hC
  have H0 : CurS w W W k A n c i h := ⟨hlo, hgr, OnlyS.refl _ _, hk, hi0, hi1, hh, xs, hx⟩
  obtain ⟨_, _, hv, hxl, hcm⟩ := sl_at hx
  injection hv with hA hn hc
  subst hA hn hc
  obtain ⟨hc0, hc1, hc2, hfz⟩ := cur_cells hk
  have hf1 := hfz 1
  have hf2 := hfz 2
  go_enter Tryd.func23, Tryd.ntmps23
  go_wp2_with (fail)
  go_quiet (fail)
  go_wp2_with (fail)
  by_cases hlt : i < xs.length
  · obtain ⟨j, rfl⟩ := Int.eq_ofNat_of_zero_le hi0
    obtain ⟨g, off, x, ec, rfl, hgb, hxk, rfl, hcell⟩ := elem_at hx (k := j) (by omega)
    have hcx := cell_up hgr (hcell 0 _ rfl)
    simp only [show byteT.size = 1 from rfl, Nat.mul_one, Nat.add_zero] at hcx
    have hgk : g ≠ k := by omega
    have hxb := x.toNat_lt
    clear hcell hxk
    go_quiet (fail)
    go_wp2_with (fail)
    go_quiet (fail)
    go_wp2_with (fail)
    go_ret
    refine ⟨_, congrArg (fun z => Ending.returned (.int .i64 z)) (and255 _).choose_spec.1, (and255 _).choose_spec.2, ?_, ?_⟩
    · exact (((H0.seth (wrap64_i64 _)).seti (by omega) ⟨by omega, by omega⟩).drewN _).out.1
    · exact (((H0.seth (wrap64_i64 _)).seti (by omega) ⟨by omega, by omega⟩).drewN _).out.2
  · go_quiet (fail)
    go_wp2_with (fail)
    go_ret
    refine ⟨_, congrArg (fun z => Ending.returned (.int .i64 z)) (and255 _).choose_spec.1, (and255 _).choose_spec.2, ?_, ?_⟩
    · exact ((H0.seth (wrap64_i64 _)).drewN _).out.1
    · exact ((H0.seth (wrap64_i64 _)).drewN _).out.2
theorem new_blk {w : World} {os : Array Obj} {d : Nat} (b : Obj) (n : Nat) (h : n = w.heap.size + os.size := by rfl) : ((gro w os d).alloc b).heap[n]? = some b := by
  subst h
  have := heap_alloc_new (gro w os d) b
  rwa [gro_size] at this
set_option maxRecDepth 100000 in
theorem new_s {w : World} {A : Option Addr} {n c : Nat} {xs : List UInt8} (hx : (byteT.sl 5).R w w.heap.size [.slice A n c] xs) (hl : xs.length ≤ 1099511627776) : Calls Tryd.prog 13 #[.slice A n c] w fun e W' => ∃ k, e = .returned (.pointer (some ⟨k, 0, none⟩)) ∧ Cur w W' k := by
  have hx' := hx
  obtain ⟨_, _, hv, hxl, hcm⟩ := sl_at hx
  injection hv with hA hn hc
  subst hA hn hc
  go_enter Tryd.func13, Tryd.ntmps13
  go_wp2_with (fail)
  go_loopw [3, 4] (fun a b wr => ∃ (h : Int) (j : Nat), a = .int .i64 h ∧ b = .int .i64 j ∧ j ≤ xs.length ∧ I64 h ∧ Hid (Gro w wr)) (fun _ b _ => xs.length - (intOf b).toNat)
  case atStart => exact ⟨33147 + xs.length, 0, rfl, rfl, Nat.zero_le _, ⟨by omega, by omega⟩, Lib.hid (Gro.refl _)⟩
  case round =>
    obtain ⟨h, j, rfl, rfl, hj, hh, hG⟩ := hrel
    obtain ⟨os, d, rfl⟩ := hG.out
    clear hG
    by_cases hlt : j < xs.length ∧ j < 4000
    · obtain ⟨hlt1, hlt2⟩ := hlt
      obtain ⟨g, off, x, ec, rfl, hgb, hxk, rfl, hcell⟩ := elem_at hx (k := j) hlt1
      have hcx := hcell 0 _ rfl
      simp only [show byteT.size = 1 from rfl, Nat.mul_one, Nat.add_zero] at hcx
      have hxb := x.toNat_lt
      clear hcell hxk hx
      go_wp2_with (fail)
      go_roundw
      case rel => exact ⟨_, j + 1, rfl, by go_num, by omega, and_i64 _ _, Lib.hid (by repeat (first | with_reducible exact Gro.refl _ | with_reducible exact Gro.refl_drew _ _ _ | with_reducible exact Gro.refl_drewN _ _ _ _ | assumption | with_reducible apply Gro.more | with_reducible apply Gro.alloc | with_reducible apply Gro.drew | with_reducible apply Gro.drewN))⟩
      case measure => simp [intOf]; omega
    · by_cases hlt1 : j < xs.length
      · have hlt2 : ¬ j < 4000 := fun h => hlt ⟨hlt1, h⟩
        go_wp2_with (fail)
        go_ret
        refine ⟨_, rfl, ?_⟩
        exact ⟨by omega, (by repeat (first | with_reducible exact Gro.refl _ | with_reducible exact Gro.refl_drew _ _ _ | with_reducible exact Gro.refl_drewN _ _ _ _ | assumption | with_reducible apply Gro.more | with_reducible apply Gro.alloc | with_reducible apply Gro.drew | with_reducible apply Gro.drewN)), _, _, _, 0, h, xs, new_blk _ _, Int.le_refl _, ⟨by omega, by omega⟩, hh, hx⟩
      · go_wp2_with (fail)
        go_ret
        refine ⟨_, rfl, ?_⟩
        exact ⟨by omega, (by repeat (first | with_reducible exact Gro.refl _ | with_reducible exact Gro.refl_drew _ _ _ | with_reducible exact Gro.refl_drewN _ _ _ _ | assumption | with_reducible apply Gro.more | with_reducible apply Gro.alloc | with_reducible apply Gro.drew | with_reducible apply Gro.drewN)), _, _, _, 0, h, xs, new_blk _ _, Int.le_refl _, ⟨by omega, by omega⟩, hh, hx⟩
set_option maxRecDepth 100000 in
theorem below_n {w W : World} {k : Nat} (hC : Cur w W k) (n : Nat) (hn : 0 < n) (hn2 : n ≤ 1099511627776) : Calls Tryd.prog 14 #[.pointer (some ⟨k, 0, none⟩), .int .i64 (n : Int)] W fun e W' => ∃ x : Nat, e = .returned (.int .i64 (x : Int)) ∧ x < n ∧ Cur w W' k ∧ OnlyS [k] W W' := by
  by_cases h : n ≤ 256
  · go_enter Tryd.func14, Tryd.ntmps14
    go_wp2_with (go_at_call 23; (with_reducible refine (byte_s hC).mono ?_); rintro e W1 ⟨x, rfl, hx, hC1, hS1⟩)
    go_ret
    refine ⟨x % n, ?_, Nat.mod_lt _ hn, hC1, hS1⟩
    exact ret_int (show (x : Int) % (n : Int) = ((x % n : Nat) : Int) from (Int.natCast_emod x n).symm)
  · go_enter Tryd.func14, Tryd.ntmps14
    go_wp2_with (fail)
    refine (byte_s hC).mono ?_
    rintro e W1 ⟨x1, rfl, hx1, hC1, hS1⟩
    go_wp2_with (fail)
    refine (byte_s hC1).mono ?_
    rintro e W2 ⟨x2, rfl, hx2, hC2, hS2⟩
    go_wp2_with (fail)
    refine (byte_s hC2).mono ?_
    rintro e W3 ⟨x3, rfl, hx3, hC3, hS3⟩
    go_wp2_with (fail)
    refine (byte_s hC3).mono ?_
    rintro e W4 ⟨x4, rfl, hx4, hC4, hS4⟩
    go_wp2_with (fail)
    go_ret
    refine ⟨(x1 * 16777216 + x2 * 65536 + x3 * 256 + x4) % n, ?_, Nat.mod_lt _ hn, hC4, ((hS1.trans hS2).trans hS3).trans hS4⟩
    exact ret_int (show ((x1 : Int) * 16777216 + x2 * 65536 + x3 * 256 + x4) % (n : Int) = (((x1 * 16777216 + x2 * 65536 + x3 * 256 + x4) % n : Nat) : Int) from by rw [Int.natCast_emod]; rfl)
theorem below_s {w W : World} {k : Nat} (hC : Cur w W k) (n : Int) (hn : 0 < n) (hn2 : n ≤ 1099511627776) : Calls Tryd.prog 14 #[.pointer (some ⟨k, 0, none⟩), .int .i64 n] W fun e W' => ∃ x : Nat, e = .returned (.int .i64 (x : Int)) ∧ (x : Int) < n ∧ Cur w W' k ∧ OnlyS [k] W W' := by
  obtain ⟨n, rfl⟩ := Int.eq_ofNat_of_zero_le (show 0 ≤ n by omega)
  refine (below_n hC n (by omega) (by omega)).mono ?_
  rintro e W' ⟨x, h1, h2, h3⟩
  exact ⟨x, h1, by omega, h3⟩
end Go.Proofs.YtdlkoffandhclaaDoor
namespace Go.Proofs.YtdlkoffandhclaaDoor
open Go.RowKit
set_option maxRecDepth 100000 in
theorem big_l (A : Option Addr) (n c : Nat) (w : World) : Calls Tryd.prog 4 #[.slice A n c] w fun e w' => e = .returned (.bool (decide (1048576 < (n : Int)))) ∧ Gro w w' := by
  go_enter Tryd.func4, Tryd.ntmps4
  go_wp2_with (fail)
  go_ret
  exact ⟨rfl, (by repeat (first | with_reducible exact Gro.refl _ | with_reducible exact Gro.refl_drew _ _ _ | with_reducible exact Gro.refl_drewN _ _ _ _ | assumption | with_reducible apply Gro.more | with_reducible apply Gro.alloc | with_reducible apply Gro.drew | with_reducible apply Gro.drewN))⟩
end Go.Proofs.YtdlkoffandhclaaDoor
namespace Go.Proofs.YtdlkoffandhclaaDoor
open Go.RowKit
theorem countsOk_iff : ∀ {L : Int} {cs : List Int}, 0 ≤ L → (countsOk L cs = true ↔ (∀ c ∈ cs, 0 ≤ c) ∧ cs.sum ≤ L)
  | L, [], hL => by simp [countsOk, hL]
  | L, c :: cs, hL => by
    simp only [countsOk, Bool.and_eq_true, btw_iff, List.sum_cons, List.mem_cons, forall_eq_or_imp]
    constructor
    · rintro ⟨⟨h1, h2⟩, h3⟩
      have := (countsOk_iff (by omega)).1 h3
      exact ⟨⟨h1, this.1⟩, by omega⟩
    · rintro ⟨⟨h1, h2⟩, h3⟩
      have hs : 0 ≤ cs.sum := by
        clear h3
        induction cs with
        | nil => simp
        | cons a cs ih =>
          have := ih fun c hc => h2 c (List.mem_cons_of_mem _ hc)
          have := h2 a List.mem_cons_self
          simp only [List.sum_cons]
          omega
      exact ⟨⟨h1, by omega⟩, (countsOk_iff (by omega)).2 ⟨h2, by omega⟩⟩
theorem addStack_yes {p : DProfile} {l : List DFrame} {n : Int} (hp : profileOk p = true) (hn : 0 ≤ n) (hl : l ≠ []) (ha : l.all frameOk = true) (ht : totalOf p + n ≤ 1000000000000) : ∃ q, addStack p l n = (q, true) := by
  have hpp := pOk_parts hp
  have htp : 0 ≤ totalOf p ∧ totalOf p = p.Counts.sum := by
    have := countsOk_take hpp.2.2 (by omega) p.Counts.length
    rw [List.take_length] at this
    unfold totalOf
    rw [if_pos hp]
    exact ⟨this.1, rfl⟩
  have hi : internStack p.Stacks l = (⟨(internL p.Stacks.Nodes (-1) l).1⟩, (internL p.Stacks.Nodes (-1) l).2) := by
    unfold internStack
    rw [if_pos]
    simp only [Bool.and_eq_true, Bool.not_eq_true', List.isEmpty_eq_false_iff]
    exact ⟨hpp.1, hl, ha⟩
  obtain ⟨r1, ⟨ms, r2⟩, r3, r4, r5, r6⟩ := intern_path l p.Stacks.Nodes (-1) hpp.1 (by omega) (by omega) ha
  rw [pathI_neg p.Stacks.Nodes (show (-1 : Int) < 0 by omega), List.nil_append] at r5
  have h0 : 0 ≤ (internL p.Stacks.Nodes (-1) l).2 := by
    apply Decidable.byContradiction
    intro hc
    rw [pathI_neg _ (by omega)] at r5
    exact hl r5.symm
  have hle : p.Counts.length ≤ (internL p.Stacks.Nodes (-1) l).1.length := by rw [r2, List.length_append]; omega
  have hnn : ∀ c ∈ p.Counts, 0 ≤ c := ((countsOk_iff (by omega)).1 hpp.2.2).1
  have hg := padTo_get (cs := p.Counts) hle (show (internL p.Stacks.Nodes (-1) l).2.toNat < _ by omega)
  have hgn : 0 ≤ (p.Counts[(internL p.Stacks.Nodes (-1) l).2.toNat]?).getD 0 := by
    cases hc : p.Counts[(internL p.Stacks.Nodes (-1) l).2.toNat]? with
    | none => exact Int.le_refl _
    | some c => exact hnn c (List.mem_of_getElem? hc)
  refine ⟨addTo p (internStack p.Stacks l).1 (internStack p.Stacks l).2.toNat n, ?_⟩
  unfold addStack
  rw [if_pos (by rw [hp, btw_mk hn (by omega)]; rfl), hi, if_pos h0, if_pos]
  unfold addTo profileOk
  simp only [Bool.and_eq_true, decide_eq_true_eq, List.length_set]
  rw [padTo_len' hle]
  refine ⟨r1, rfl, (countsOk_iff (by omega)).2 ⟨?_, ?_⟩⟩
  · rw [hg]
    intro c hc
    rcases List.mem_or_eq_of_mem_set hc with h1 | h1
    · unfold padTo at h1
      rcases List.mem_append.1 h1 with h1 | h1
      · exact hnn c h1
      · rw [(List.mem_replicate.1 h1).2]
        exact Int.le_refl _
    · rw [h1]
      simp only [Option.getD_some]
      omega
  · rw [hg, sum_set _ _ _ _ hg]
    unfold padTo
    rw [List.sum_append, sum_zeros]
    simp only [Option.getD_some]
    omega
theorem total_bd {p : DProfile} (h : profileOk p = true) : 0 ≤ totalOf p ∧ totalOf p ≤ 1000000000000 := by
  have hpp := pOk_parts h
  have := countsOk_take hpp.2.2 (by omega) p.Counts.length
  rw [List.take_length] at this
  unfold totalOf
  rw [if_pos h]
  exact this
theorem countOf_nonneg {p : DProfile} (m : List DFrame) : 0 ≤ countOf p m := by
  unfold countOf
  split
  · rename_i hc
    have hnn : ∀ c ∈ p.Counts, 0 ≤ c := ((countsOk_iff (by omega)).1 (pOk_parts hc.2).2.2).1
    cases hx : p.Counts[(findStack p.Stacks m).toNat]? with
    | none => exact Int.le_refl _
    | some c => exact hnn c (List.mem_of_getElem? hx)
  · exact Int.le_refl _
/-- counts of a text among entries -/
def cntT (l : List DEntry) (s : ByteArray) : Int := (l.map fun e => if e.Stack = s then e.Count else 0).sum
def sumE (l : List DEntry) : Int := (l.map DEntry.Count).sum
/-- an entry of a stack that can be written -/
def entOk (e : DEntry) : Prop := ∃ s : List DFrame, s ≠ [] ∧ s.all frameOk = true ∧ e.Stack = fmtF s ∧ 0 ≤ e.Count
theorem stack_ok {p : DProfile} {m : List DFrame} (h : countOf p m ≠ 0) : m ≠ [] ∧ m.all frameOk = true := by
  obtain ⟨hp, k, hk, rfl⟩ := countOf_pos h
  exact ⟨path_ne (pOk_parts hp).1 hk, path_ok (pOk_parts hp).1 hk⟩
theorem profL_yes : ∀ {l : List DEntry} {p : DProfile}, profileOk p = true → (∀ e ∈ l, entOk e) → totalOf p + sumE l ≤ 1000000000000 →
    ∃ q, profL l p = some q ∧ profileOk q = true ∧ totalOf q = totalOf p + sumE l ∧ ∀ m, m ≠ [] → m.all frameOk = true → countOf q m = countOf p m + cntT l (fmtF m)
  | [], p, hp, _, _ => ⟨p, rfl, hp, by simp [sumE], fun m _ _ => by simp [cntT]⟩
  | e :: l, p, hp, he, ht => by
    obtain ⟨s, h1, h2, h3, h4⟩ := he e List.mem_cons_self
    have hsl : 0 ≤ sumE l := by
      have : ∀ e ∈ l, 0 ≤ e.Count := fun e' h' => by obtain ⟨_, _, _, _, h5⟩ := he e' (List.mem_cons_of_mem _ h'); exact h5
      clear ht he
      induction l with
      | nil => simp [sumE]
      | cons a l ih =>
        have := ih fun c hc => this c (List.mem_cons_of_mem _ hc)
        have := this
        have h6 := ‹∀ e ∈ a :: l, 0 ≤ e.Count› a List.mem_cons_self
        simp only [sumE, List.map_cons, List.sum_cons] at this ⊢
        omega
    have hse : sumE (e :: l) = e.Count + sumE l := by simp [sumE]
    obtain ⟨r, hr⟩ := addStack_yes hp h4 h1 h2 (by omega)
    have hpr : (parseR e.Stack) = (s, true) := by
      unfold parseR
      rw [h3, parse_back h2 h1]
    have hst : stepP p e = some r := by
      unfold stepP
      rw [hpr]
      simp only
      rw [hr]
      rfl
    have hrr := (addStack_spec hr).2.1
    have htr := addStack_total hr
    obtain ⟨q, hq1, hq2, hq3, hq4⟩ := profL_yes hrr (fun e' h' => he e' (List.mem_cons_of_mem _ h')) (by omega)
    refine ⟨q, by rw [profL_some hst]; exact hq1, hq2, by omega, fun m hm hm2 => ?_⟩
    rw [hq4 m hm hm2, addStack_count hr m]
    have hmm : (m = s) ↔ e.Stack = fmtF m := by
      rw [h3]
      constructor
      · rintro rfl; rfl
      · intro hh; exact (fmtF_inj h2 hm2 h1 hm hh).symm
    simp only [cntT, List.map_cons, List.sum_cons, hmm]
    omega
theorem ents_entOk {p : DProfile} {e : DEntry} (he : e ∈ entriesOf p) : entOk e := by
  by_cases hp : profileOk p = true
  · obtain ⟨k, hk, h1, h2, h3⟩ := (ents_iff hp e).1 he
    exact ⟨path p.Stacks.Nodes k, path_ne (pOk_parts hp).1 hk, path_ok (pOk_parts hp).1 hk, h1, by rw [h2]; exact countOf_nonneg _⟩
  · unfold entriesOf at he
    rw [if_neg hp] at he
    cases he
theorem sum_perm {l1 l2 : List Int} (h : l1.Perm l2) : l1.sum = l2.sum := by
  induction h with
  | nil => rfl
  | cons x _ ih => simp only [List.sum_cons, ih]
  | swap x y l => simp only [List.sum_cons]; omega
  | trans _ _ h1 h2 => rw [h1, h2]
theorem entTake_sum (p : DProfile) : ∀ n, n ≤ p.Counts.length → ((entTake p n).map DEntry.Count).sum = (p.Counts.take n).sum
  | 0, _ => by simp [entTake]
  | n + 1, h => by
    obtain ⟨c, hc⟩ : ∃ c, p.Counts[n]? = some c := ⟨_, List.getElem?_eq_getElem (by omega)⟩
    have ih := entTake_sum p n (by omega)
    rw [List.take_add_one, hc, List.sum_append]
    by_cases h0 : c = 0
    · subst h0
      rw [entTake_zero hc, ih]
      simp
    · rw [entTake_snoc hc h0, List.map_append, List.sum_append, ih]
      simp
theorem sumE_ents {p : DProfile} (h : profileOk p = true) : sumE (entriesOf p) = totalOf p := by
  unfold sumE entriesOf totalOf
  rw [if_pos h, if_pos h, sum_perm ((foldl_insE_perm (entTake p p.Counts.length) []).map DEntry.Count), List.nil_append, entTake_sum p _ (Nat.le_refl _), List.take_length]
theorem cntT_one {l : List DEntry} {e : DEntry} (hn : (l.map fun e => bl e.Stack).Nodup) (he : e ∈ l) : cntT l e.Stack = e.Count := by
  induction l with
  | nil => cases he
  | cons a l ih =>
    rw [List.map_cons, List.nodup_cons] at hn
    simp only [cntT, List.map_cons, List.sum_cons]
    have hz : ∀ s : ByteArray, (∀ x ∈ l, x.Stack ≠ s) → (l.map fun e => if e.Stack = s then e.Count else 0).sum = 0 := by
      intro s hs
      clear ih hn he
      induction l with
      | nil => rfl
      | cons b l ih2 =>
        simp only [List.map_cons, List.sum_cons]
        rw [if_neg (hs b List.mem_cons_self), ih2 fun x hx => hs x (List.mem_cons_of_mem _ hx)]
        rfl
    rcases List.mem_cons.1 he with rfl | he
    · rw [if_pos rfl, hz _ fun x hx e' => hn.1 (by rw [← e']; exact List.mem_map_of_mem (f := fun e => bl e.Stack) hx)]
      omega
    · rw [if_neg fun e' => hn.1 (by rw [e']; exact List.mem_map_of_mem (f := fun e => bl e.Stack) he)]
      have := ih hn.2 he
      unfold cntT at this
      omega
theorem cntT_none {l : List DEntry} {s : ByteArray} (h : ∀ e ∈ l, e.Stack ≠ s) : cntT l s = 0 := by
  unfold cntT
  induction l with
  | nil => rfl
  | cons b l ih =>
    simp only [List.map_cons, List.sum_cons]
    rw [if_neg (h b List.mem_cons_self), ih fun x hx => h x (List.mem_cons_of_mem _ hx)]
    rfl
theorem cntT_ents {p : DProfile} (h : profileOk p = true) {m : List DFrame} (hm : m ≠ []) (ha : m.all frameOk = true) : cntT (entriesOf p) (fmtF m) = countOf p m := by
  by_cases hc : countOf p m = 0
  · rw [hc]
    refine cntT_none fun e he hs => ?_
    obtain ⟨k, hk, h1, h2, h3⟩ := (ents_iff h e).1 he
    have := fmtF_inj (path_ok (pOk_parts h).1 hk) ha (path_ne (pOk_parts h).1 hk) hm (by rw [← h1, hs])
    rw [this, hc] at h2
    exact h3 h2
  · obtain ⟨_, k, hk, hpk⟩ := countOf_pos hc
    have he : (⟨fmtF m, countOf p m⟩ : DEntry) ∈ entriesOf p := (ents_iff h _).2 ⟨k, hk, by rw [hpk], by rw [hpk], hc⟩
    exact cntT_one (ents_nodup2 h) he
theorem cntT_app (a b : List DEntry) (s : ByteArray) : cntT (a ++ b) s = cntT a s + cntT b s := by simp [cntT]
theorem sumE_app (a b : List DEntry) : sumE (a ++ b) = sumE a + sumE b := by simp [sumE]
theorem countOf_empty (m : List DFrame) : countOf emptyP m = 0 := countOf_none fun _ hk => absurd hk (Nat.not_lt_zero _)
theorem total_empty : totalOf emptyP = 0 := by
  unfold totalOf
  rw [if_pos emptyP_ok]
  rfl
/-- a profile made of entries -/
theorem profR_yes2 {l : List DEntry} (he : ∀ e ∈ l, entOk e) (ht : sumE l ≤ 1000000000000) :
    (profR l).2 = true ∧ profileOk (profR l).1 = true ∧ totalOf (profR l).1 = sumE l ∧ ∀ m, m ≠ [] → m.all frameOk = true → countOf (profR l).1 m = cntT l (fmtF m) := by
  obtain ⟨q, h1, h2, h3, h4⟩ := profL_yes emptyP_ok he (by rw [total_empty]; omega)
  rw [profR_yes h1]
  refine ⟨rfl, h2, by rw [h3, total_empty]; omega, fun m hm ha => by rw [h4 m hm ha, countOf_empty]; omega⟩
theorem count_ext {p q : DProfile} (h : ∀ m, m ≠ [] → m.all frameOk = true → countOf p m = countOf q m) (m : List DFrame) : countOf p m = countOf q m := by
  by_cases h1 : m ≠ [] ∧ m.all frameOk = true
  · exact h m h1.1 h1.2
  · have h2 : countOf p m = 0 := Decidable.byContradiction fun hc => h1 (stack_ok hc)
    have h3 : countOf q m = 0 := Decidable.byContradiction fun hc => h1 (stack_ok hc)
    rw [h2, h3]
/-- a profile is the one of its entries -/
theorem back_ents {p : DProfile} (h : profileOk p = true) : (profR (entriesOf p)).2 = true ∧ profileOk (profR (entriesOf p)).1 = true ∧ entriesOf (profR (entriesOf p)).1 = entriesOf p ∧ totalOf (profR (entriesOf p)).1 = totalOf p := by
  have hb := total_bd h
  obtain ⟨h1, h2, h3, h4⟩ := profR_yes2 (fun e he => ents_entOk he) (by rw [sumE_ents h]; exact hb.2)
  refine ⟨h1, h2, ents_ext h2 h (count_ext fun m hm ha => by rw [h4 m hm ha, cntT_ents h hm ha]), by rw [h3, sumE_ents h]⟩
theorem merge_spec {p q : DProfile} (hp : profileOk p = true) (hq : profileOk q = true) (ht : totalOf p + totalOf q ≤ 1000000000000) :
    (mergeP p q).2 = true ∧ profileOk (mergeP p q).1 = true ∧ totalOf (mergeP p q).1 = totalOf p + totalOf q ∧ ∀ m, countOf (mergeP p q).1 m = countOf p m + countOf q m := by
  have hm : mergeP p q = profR (entriesOf p ++ entriesOf q) := by simp [mergeP, hp, hq]
  rw [hm]
  obtain ⟨h1, h2, h3, h4⟩ := profR_yes2 (l := entriesOf p ++ entriesOf q) (fun e he => (List.mem_append.1 he).elim ents_entOk ents_entOk) (by rw [sumE_app, sumE_ents hp, sumE_ents hq]; exact ht)
  refine ⟨h1, h2, by rw [h3, sumE_app, sumE_ents hp, sumE_ents hq], fun m => ?_⟩
  by_cases hmm : m ≠ [] ∧ m.all frameOk = true
  · rw [h4 m hmm.1 hmm.2, cntT_app, cntT_ents hp hmm.1 hmm.2, cntT_ents hq hmm.1 hmm.2]
  · have hz : ∀ r : DProfile, countOf r m = 0 := fun r => Decidable.byContradiction fun hc => hmm (stack_ok hc)
    rw [hz, hz, hz]
    rfl
theorem ents_strict {p : DProfile} (h : profileOk p = true) {k : Nat} {x y : DEntry} (hx : (entriesOf p)[k]? = some x) (hy : (entriesOf p)[k + 1]? = some y) : bl x.Stack < bl y.Stack := by
  have h1 := ents_le (p := p)
  have h2 := ents_nodup2 h
  obtain ⟨hk, hx⟩ := List.getElem?_eq_some_iff.1 hx
  obtain ⟨hk2, hy⟩ := List.getElem?_eq_some_iff.1 hy
  have h3 := List.pairwise_iff_getElem.1 h1 k (k + 1) hk hk2 (by omega)
  rw [hx, hy] at h3
  have h4 : bl x.Stack ≠ bl y.Stack := by
    intro e
    have h5 := List.pairwise_iff_getElem.1 h2 k (k + 1) (by simpa using hk) (by simpa using hk2) (by omega)
    simp only [List.getElem_map, hx, hy] at h5
    exact h5 e
  exact bl_lt_of (bl_le_of_not h3) h4
end Go.Proofs.YtdlkoffandhclaaDoor
namespace Go.Proofs.YtdlkoffandhclaaDoor
open Go.RowKit
def sclE (n : Int) (e : DEntry) : DEntry := ⟨e.Stack, e.Count * n⟩
def scaleP (p : DProfile) (n : Int) : DProfile × Bool := if profileOk p && (btw n 1 1000000000000 && decide (totalOf p ≤ Int.tdiv 1000000000000 n)) then profR ((entriesOf p).map (sclE n)) else (emptyP, false)
theorem sum_elem {L : Int} {cs : List Int} (h : countsOk L cs = true) {j : Nat} {c : Int} (hc : cs[j]? = some c) (hL : 0 ≤ L) : 0 ≤ c ∧ c ≤ cs.sum := by
  induction cs generalizing L j with
  | nil => simp at hc
  | cons a cs ih =>
    simp only [countsOk, Bool.and_eq_true, btw_iff] at h
    have h0 := countsOk_take h.2 (by omega) cs.length
    rw [List.take_length] at h0
    cases j with
    | zero =>
      simp only [List.getElem?_cons_zero, Option.some.injEq] at hc
      subst hc
      simp only [List.sum_cons]
      omega
    | succ j =>
      simp only [List.getElem?_cons_succ] at hc
      have := ih h.2 hc (by omega)
      simp only [List.sum_cons]
      omega
theorem entTake_mem2 {p : DProfile} {n : Nat} {e : DEntry} (h : e ∈ entTake p n) : ∃ k : Nat, p.Counts[k]? = some e.Count := by
  unfold entTake at h
  obtain ⟨k, _, hk⟩ := List.mem_filterMap.1 h
  unfold entAt at hk
  split at hk
  · rename_i c hc
    split at hk
    · cases hk
    · simp only [Option.some.injEq] at hk
      subst hk
      exact ⟨k, hc⟩
  · cases hk
theorem ents_count {p : DProfile} {e : DEntry} (hp : profileOk p = true) (h : e ∈ entriesOf p) : 0 ≤ e.Count ∧ e.Count ≤ totalOf p := by
  unfold entriesOf at h
  rw [if_pos hp] at h
  have h1 := (foldl_insE_perm (entTake p p.Counts.length) []).mem_iff.1 h
  obtain ⟨k, hk⟩ := entTake_mem2 (by simpa using h1)
  have h2 := hp
  simp only [profileOk, Bool.and_eq_true] at h2
  have := sum_elem h2.2.2 hk (by omega)
  unfold totalOf
  rw [if_pos hp]
  exact this
theorem scale_fit {p : DProfile} {n : Int} {e : DEntry} (hp : profileOk p = true) (hn : btw n 1 1000000000000 = true) (ht : decide (totalOf p ≤ Int.tdiv 1000000000000 n) = true) (h : e ∈ entriesOf p) : 0 ≤ e.Count * n ∧ e.Count * n ≤ 1000000000000 := by
  have h1 := ents_count hp h
  have h2 := btw_iff.1 hn
  have h3 := of_decide_eq_true ht
  rw [Int.tdiv_eq_ediv_of_nonneg (by omega)] at h3
  refine ⟨Int.mul_nonneg h1.1 (by omega), ?_⟩
  have h4 : e.Count ≤ 1000000000000 / n := by omega
  exact (Int.le_ediv_iff_mul_le (by omega)).1 h4
theorem frSum_scl (n : Int) (l : List DEntry) : frSum (l.map (sclE n)) = frSum l := by
  unfold frSum
  rw [List.map_map]
  rfl
theorem scaleP_len {p : DProfile} (n : Int) (h : szProfile p ≤ 1048576) : (scaleP p n).1.Stacks.Nodes.length ≤ 122500000000 ∧ (scaleP p n).1.Counts.length ≤ 122500000000 := by
  have h1 := frSum_small h
  unfold scaleP
  split
  · have := profR_len ((entriesOf p).map (sclE n))
    rw [frSum_scl] at this
    omega
  · exact ⟨Nat.zero_le _, Nat.zero_le _⟩
theorem scl_sz {p : DProfile} {n : Int} {j : Nat} {e : DEntry} (h : ((entriesOf p).map (sclE n))[j]? = some e) : e.Stack.size ≤ 12 * p.Stacks.Nodes.length := by
  rw [List.getElem?_map] at h
  cases hx : (entriesOf p)[j]? with
  | none => rw [hx] at h; cases h
  | some x =>
    rw [hx] at h
    simp only [Option.map_some, Option.some.injEq] at h
    subst h
    have := ents_sz hx
    exact this
def partS (n : Int) (l : List DEntry) (j : Nat) : List DEntry := (l.take j).map (sclE n) ++ l.drop j
theorem partS_zero (n : Int) (l : List DEntry) : partS n l 0 = l := by simp [partS]
theorem partS_all (n : Int) (l : List DEntry) : partS n l l.length = l.map (sclE n) := by simp [partS]
theorem partS_len (n : Int) (l : List DEntry) (j : Nat) : (partS n l j).length = l.length := by
  simp only [partS, List.length_append, List.length_map, List.length_take, List.length_drop]
  omega
theorem partS_get {n : Int} {l : List DEntry} {j : Nat} {e : DEntry} (h : l[j]? = some e) : (partS n l j)[j]? = some e := by
  have hj : j < l.length := (List.getElem?_eq_some_iff.1 h).1
  have hl : ((l.take j).map (sclE n)).length = j := by simp; omega
  unfold partS
  rw [List.getElem?_append_right (by omega), hl, Nat.sub_self, List.getElem?_drop, Nat.add_zero]
  exact h
theorem partS_set {n : Int} {l : List DEntry} {j : Nat} {e : DEntry} (h : l[j]? = some e) : (partS n l j).set j (sclE n e) = partS n l (j + 1) := by
  have hj : j < l.length := (List.getElem?_eq_some_iff.1 h).1
  have hl : ((l.take j).map (sclE n)).length = j := by simp; omega
  unfold partS
  rw [List.set_append_right _ _ (by omega), hl, Nat.sub_self, drop_at h, List.set_cons_zero, List.take_add_one, h]
  simp
theorem setCell_self {W : World} {a : Addr} {v : Value} (h : W.cell? a = some v) : W.setCell a v = W := by
  unfold World.cell? at h
  unfold World.setCell
  split at h
  · rename_i c e f hc
    split at h
    · cases h
    · rename_i hs
      have : W.heap.modify a.block (fun
        | .cells c elem frozen => .cells (if a.spot.isSome then c else c.setIfInBounds a.off v) elem frozen
        | o => o) = W.heap := by
        apply Array.ext_getElem?
        intro i
        rw [Array.getElem?_modify]
        split
        · rename_i hi
          subst hi
          rw [hc]
          simp only [Option.map_some, hs, if_neg, Bool.false_eq_true, not_false_eq_true]
          congr 2
          apply Array.ext_getElem?
          intro k
          rw [Array.getElem?_setIfInBounds]
          split
          · rename_i hk
            subst hk
            split
            · exact h.symm
            · rename_i hk2
              rw [Array.getElem?_eq_none (by omega)]
          · rfl
        · rfl
      exact congrArg (fun h => ({ W with heap := h } : World)) this
  · cases h
theorem set_ent {e : TypeId} {X W : World} {A : Option Addr} {n c : Nat} {l : List DEntry} {k : Nat} {x : DEntry} {y : Int} (h : Fresh (tEntry.sl e) X W [.slice A n c] l) (hg : Gro X W) (hx : l[k]? = some x) (hy : I64 y) :
    ∃ g, A = some ⟨g, 0, none⟩ ∧ g < W.heap.size ∧ W.frozen? ⟨g, k * 2 + 1, none⟩ = false ∧ W.cell? ⟨g, k * 2, none⟩ = some (.string x.Stack) ∧ W.cell? ⟨g, k * 2 + 1, none⟩ = some (.int .i64 x.Count) ∧
      Gro X (W.setCell ⟨g, k * 2 + 1, none⟩ (.int .i64 y)) ∧ Fresh (tEntry.sl e) X (W.setCell ⟨g, k * 2 + 1, none⟩ (.int .i64 y)) [.slice A n c] (l.set k ⟨x.Stack, y⟩) := by
  obtain ⟨S, hO, hN, hS⟩ := h
  obtain ⟨g, ec, Sc, rfl, hgS, hgl, hgc, hSc, hO1, hfz, hcell, hset⟩ := own_put hO hN hx
  obtain ⟨rfl, rfl, b1, b2⟩ := tEntry_O hO1
  have hc0 := hcell 0 _ rfl
  have hc1 := hcell 1 _ rfl
  have hs2 : tEntry.size = 2 := rfl
  simp only [hs2, Nat.add_zero] at hc0 hc1
  have h1 := hset [.string x.Stack, .int .i64 y] ⟨x.Stack, y⟩ (tEntry_mkO (x := ⟨x.Stack, y⟩) b1 hy)
  simp only [hs2, setRow, Nat.add_zero, Nat.zero_add, setCell_self hc0] at h1
  refine ⟨g, rfl, hgl, hfz _, hc0, hc1, hg.setRow (p := ⟨g, k * 2 + 1, none⟩) (hS g hgS) _, S, h1.1, hN, hS⟩
end Go.Proofs.YtdlkoffandhclaaDoor
namespace Go.Proofs.YtdlkoffandhclaaDoor
open Go.RowKit
def mergeAllL : List DProfile → DProfile → Option DProfile
  | [], p => some p
  | x :: l, p => if (mergeP p x).2 then mergeAllL l (mergeP p x).1 else none
def mergeAllP (l : List DProfile) : DProfile × Bool := match mergeAllL l emptyP with
  | some p => (p, true)
  | none => (emptyP, false)
theorem mergeAllP_bad {l : List DProfile} (h : mergeAllL l emptyP = none) : mergeAllP l = (emptyP, false) := by unfold mergeAllP; rw [h]
theorem mergeAllP_yes {l : List DProfile} {p : DProfile} (h : mergeAllL l emptyP = some p) : mergeAllP l = (p, true) := by unfold mergeAllP; rw [h]
theorem mergeAllL_yes {l : List DProfile} {x p q : DProfile} (h : mergeP p x = (q, true)) : mergeAllL (x :: l) p = mergeAllL l q := by rw [mergeAllL, h]; rfl
theorem mergeAllL_no {l : List DProfile} {x p q : DProfile} (h : mergeP p x = (q, false)) : mergeAllL (x :: l) p = none := by rw [mergeAllL, h]; rfl
theorem szP_nodes (p : DProfile) : p.Stacks.Nodes.length ≤ szProfile p := by
  unfold szProfile szStacks szL
  omega
theorem mrg_bd {p x : DProfile} (hp : profileOk p = true) (h : 3 * p.Stacks.Nodes.length + szProfile x ≤ 1048576) : p.Stacks.Nodes.length ≤ 16777216 ∧ x.Stacks.Nodes.length ≤ 16777216 ∧ frSum (entriesOf p ++ entriesOf x) ≤ 500000000000 := by
  have h1 := szP_nodes x
  refine ⟨by omega, by omega, ?_⟩
  rw [frSum_app]
  have h2 := frSum_ents p
  have h3 := frSum_small (p := x) (by omega)
  have h4 := sq_le (n := p.Stacks.Nodes.length) (m := 350000) (by omega)
  omega
theorem mrg_ok {p x q : DProfile} (h : mergeP p x = (q, true)) : profileOk q = true ∧ 3 * q.Stacks.Nodes.length ≤ 3 * p.Stacks.Nodes.length + szProfile x := by
  have hn := mergeP_nodes p x
  rw [h] at hn
  simp only at hn
  unfold mergeP at h
  split at h
  · rename_i hk
    simp only [Bool.and_eq_true] at hk
    have h3 := prof_three hk.2
    refine ⟨?_, by omega⟩
    cases hr : profL (entriesOf p ++ entriesOf x) emptyP with
    | none => rw [profR_bad hr] at h; simp at h
    | some r =>
      rw [profR_yes hr] at h
      simp only [Prod.mk.injEq, and_true] at h
      rw [← h]
      exact (profL_ok emptyP_ok hr).1
  · simp at h
theorem mergeAllL_nodes : ∀ {l : List DProfile} {p q : DProfile}, mergeAllL l p = some q → profileOk p = true → profileOk q = true ∧ 3 * q.Stacks.Nodes.length ≤ 3 * p.Stacks.Nodes.length + (l.map szProfile).sum
  | [], p, q, h, hp => by
    simp only [mergeAllL, Option.some.injEq] at h
    subst h
    exact ⟨hp, by simp⟩
  | x :: l, p, q, h, hp => by
    obtain ⟨r, ok, hr⟩ : ∃ r ok, mergeP p x = (r, ok) := ⟨_, _, rfl⟩
    cases ok with
    | false => rw [mergeAllL_no hr] at h; cases h
    | true =>
      rw [mergeAllL_yes hr] at h
      have h1 := mrg_ok hr
      have h2 := mergeAllL_nodes h h1.1
      simp only [List.map_cons, List.sum_cons]
      exact ⟨h2.1, by omega⟩
theorem mergeAllP_len (l : List DProfile) : 3 * (mergeAllP l).1.Stacks.Nodes.length ≤ (l.map szProfile).sum ∧ (mergeAllP l).1.Counts.length = (mergeAllP l).1.Stacks.Nodes.length := by
  cases h : mergeAllL l emptyP with
  | none =>
    rw [mergeAllP_bad h]
    exact ⟨Nat.zero_le _, rfl⟩
  | some q =>
    rw [mergeAllP_yes h]
    have h1 := mergeAllL_nodes h emptyP_ok
    have h2 : emptyP.Stacks.Nodes.length = 0 := rfl
    exact ⟨by simp only; omega, pOk_len h1.1⟩
end Go.Proofs.YtdlkoffandhclaaDoor
namespace Go.Proofs.YtdlkoffandhclaaDoor
open Go.RowKit
theorem cntT_scl (n : Int) (l : List DEntry) (s : ByteArray) : cntT (l.map (sclE n)) s = cntT l s * n := by
  induction l with
  | nil => simp [cntT]
  | cons e l ih =>
    simp only [cntT, List.map_cons, List.sum_cons] at ih ⊢
    rw [ih, Int.add_mul]
    congr 1
    by_cases h : e.Stack = s
    · rw [if_pos (show (sclE n e).Stack = s from h), if_pos h]
      rfl
    · rw [if_neg (show ¬ (sclE n e).Stack = s from h), if_neg h]
      omega
theorem sumE_scl (n : Int) (l : List DEntry) : sumE (l.map (sclE n)) = sumE l * n := by
  induction l with
  | nil => simp [sumE]
  | cons e l ih =>
    simp only [sumE, List.map_cons, List.sum_cons] at ih ⊢
    rw [ih, Int.add_mul]
    rfl
theorem scale_spec {p : DProfile} {n : Int} (hp : profileOk p = true) (hn : btw n 1 1000000000000 = true) (ht : totalOf p * n ≤ 1000000000000) :
    (scaleP p n).2 = true ∧ profileOk (scaleP p n).1 = true ∧ totalOf (scaleP p n).1 = totalOf p * n ∧ ∀ m, countOf (scaleP p n).1 m = countOf p m * n := by
  have h1 := btw_iff.1 hn
  have hd : decide (totalOf p ≤ Int.tdiv 1000000000000 n) = true := by
    apply decide_eq_true
    rw [Int.tdiv_eq_ediv_of_nonneg (by omega)]
    exact (Int.le_ediv_iff_mul_le (by omega)).2 ht
  have hs : scaleP p n = profR ((entriesOf p).map (sclE n)) := by unfold scaleP; rw [hp, hn, hd]; rfl
  rw [hs]
  obtain ⟨h2, h3, h4, h5⟩ := profR_yes2 (l := (entriesOf p).map (sclE n)) (fun e he => by
    obtain ⟨e', he', rfl⟩ := List.mem_map.1 he
    obtain ⟨s, k1, k2, k3, k4⟩ := ents_entOk he'
    exact ⟨s, k1, k2, k3, Int.mul_nonneg k4 (by omega)⟩) (by rw [sumE_scl, sumE_ents hp]; exact ht)
  refine ⟨h2, h3, by rw [h4, sumE_scl, sumE_ents hp], fun m => ?_⟩
  by_cases hmm : m ≠ [] ∧ m.all frameOk = true
  · rw [h5 m hmm.1 hmm.2, cntT_scl, cntT_ents hp hmm.1 hmm.2]
  · have hz : ∀ r : DProfile, countOf r m = 0 := fun r => Decidable.byContradiction fun hc => hmm (stack_ok hc)
    rw [hz, hz]
    omega
/-- stacks added one by one -/
def addAll (l : List (List DFrame × Int)) (p : DProfile) : DProfile := l.foldl (fun p x => (addStack p x.1 x.2).1) p
theorem addAll_spec : ∀ {l : List (List DFrame × Int)} {p : DProfile}, profileOk p = true → (∀ x ∈ l, x.1 ≠ [] ∧ x.1.all frameOk = true ∧ 0 ≤ x.2) → totalOf p + (l.map Prod.snd).sum ≤ 1000000000000 →
    profileOk (addAll l p) = true ∧ totalOf (addAll l p) = totalOf p + (l.map Prod.snd).sum ∧ ∀ m, countOf (addAll l p) m = countOf p m + (l.map fun x => if m = x.1 then x.2 else 0).sum
  | [], p, hp, _, _ => ⟨hp, by simp [addAll], fun m => by simp [addAll]⟩
  | x :: l, p, hp, hx, ht => by
    obtain ⟨h1, h2, h3⟩ := hx x List.mem_cons_self
    have hnn : ∀ l : List (List DFrame × Int), (∀ x ∈ l, x.1 ≠ [] ∧ x.1.all frameOk = true ∧ 0 ≤ x.2) → 0 ≤ (l.map Prod.snd).sum := by
      intro l
      induction l with
      | nil => intro _; simp
      | cons a l ih =>
        intro h
        have := ih fun y hy => h y (List.mem_cons_of_mem _ hy)
        have := (h a List.mem_cons_self).2.2
        simp only [List.map_cons, List.sum_cons]
        omega
    have h4 := hnn l fun y hy => hx y (List.mem_cons_of_mem _ hy)
    simp only [List.map_cons, List.sum_cons] at ht
    obtain ⟨q, hq⟩ := addStack_yes hp h3 h1 h2 (by omega)
    have hqq := (addStack_spec hq).2.1
    have htq := addStack_total hq
    obtain ⟨k1, k2, k3⟩ := addAll_spec hqq (fun y hy => hx y (List.mem_cons_of_mem _ hy)) (by omega)
    have he : addAll (x :: l) p = addAll l q := by simp only [addAll, List.foldl_cons, hq]
    rw [he]
    simp only [List.map_cons, List.sum_cons]
    refine ⟨k1, by omega, fun m => ?_⟩
    rw [k3 m, addStack_count hq m]
    omega
end Go.Proofs.YtdlkoffandhclaaDoor
namespace Go.Proofs.YtdlkoffandhclaaDoor
open Go.RowKit
def byteAt (xs : List UInt8) (i : Nat) : Nat := ((xs[(i * 5 + 1) % xs.length]?).getD 0).toNat
theorem byteAt_lt (xs : List UInt8) (i : Nat) : byteAt xs i < 256 := UInt8.toNat_lt _
set_option maxRecDepth 100000 in
set_option maxHeartbeats 2000000 in
theorem at_l {xs : List UInt8} {w : World} {A : Option Addr} {c : Nat} (hx : (byteT.sl 5).R w w.heap.size [.slice A xs.length c] xs) (i : Nat) (hi : i ≤ 1000000000) (hl : xs.length ≤ 1099511627776) :
    Calls Tryd.prog 6 #[.slice A xs.length c, .int .i64 (i : Int)] w fun e w' => e = .returned (.int .i64 (byteAt xs i : Int)) ∧ Gro w w' := by
  by_cases h0 : xs.length = 0
  · have hb : (((xs.length : Nat) : Int) == 0) = true := by simp [h0]
    have HV := Lib.hid (show (0 : Int) = (byteAt xs i : Int) from by
      have : xs = [] := List.eq_nil_of_length_eq_zero h0
      subst this
      rfl)
    clear h0
    go_enter Tryd.func6, Tryd.ntmps6
    go_wp2_with (fail)
    go_ret
    exact ⟨ret_int HV.out, Gro.refl _⟩
  · have hb : (((xs.length : Nat) : Int) == 0) = false := by simp only [beq_eq_false_iff_ne]; omega
    obtain ⟨n, hn⟩ : ∃ n, (i * 5 + 1) % xs.length = n := ⟨_, rfl⟩
    have hnl : n < xs.length := by rw [← hn]; exact Nat.mod_lt _ (by omega)
    obtain ⟨g, off, x, ec, rfl, hgb, hxk, rfl, hcell⟩ := elem_at hx (k := n) hnl
    have hcx := hcell 0 _ rfl
    simp only [show byteT.size = 1 from rfl, Nat.mul_one, Nat.add_zero] at hcx
    have hw1 : IntKind.i64.wrap ((i : Int) * 5) = (i : Int) * 5 := IntWalk.i64_in _ ⟨by omega, by omega⟩
    have hw2 : IntKind.i64.wrap ((i : Int) * 5 + 1) = (i : Int) * 5 + 1 := IntWalk.i64_in _ ⟨by omega, by omega⟩
    have hm : Int.tmod ((i : Int) * 5 + 1) (xs.length : Int) = (n : Int) := by
      rw [Int.tmod_eq_emod_of_nonneg (by omega), show (i : Int) * 5 + 1 = ((i * 5 + 1 : Nat) : Int) from by omega, ← Int.natCast_emod, hn]
    have hz : ¬ ((xs.length : Nat) : Int) = 0 := by omega
    have hni : (n : Int) < (xs.length : Int) := by omega
    have hn0 : (0 : Int) ≤ (n : Int) := by omega
    have HV := Lib.hid (show ((x.toNat : Nat) : Int) = (byteAt xs i : Int) from by
      unfold byteAt
      rw [hn, hxk]
      rfl)
    have hxb := x.toNat_lt
    clear hcell hxk hx h0 hn
    go_enter Tryd.func6, Tryd.ntmps6
    go_wp2_with (fail)
    go_ret
    exact ⟨ret_int HV.out, (by repeat (first | with_reducible exact Gro.refl _ | with_reducible exact Gro.refl_drew _ _ _ | with_reducible exact Gro.refl_drewN _ _ _ _ | assumption | with_reducible apply Gro.more | with_reducible apply Gro.alloc | with_reducible apply Gro.drew | with_reducible apply Gro.drewN))⟩
theorem at_z {xs : List UInt8} {w : World} {A : Option Addr} {c : Nat} {z : Int} {b : Nat} (hx : (byteT.sl 5).R w w.heap.size [.slice A xs.length c] xs) (i : Nat) (hz : z = (i : Int)) (hv : byteAt xs i = b) (hi : i ≤ 1000000000) (hl : xs.length ≤ 1099511627776) :
    Calls Tryd.prog 6 #[.slice A xs.length c, .int .i64 z] w fun e w' => e = .returned (.int .i64 (b : Int)) ∧ Gro w w' := by
  subst hz hv
  exact at_l hx i hi hl
end Go.Proofs.YtdlkoffandhclaaDoor
namespace Go.Proofs.YtdlkoffandhclaaDoor
open Go.RowKit
def stk (fs : List DFrame) : Prop := fs ≠ [] ∧ fs.all frameOk = true
theorem stk_snoc {fs : List DFrame} {nm : ByteArray} {n : Int} (h : stk fs) (hn : nameOk nm = true) (hl : 0 ≤ n ∧ n ≤ 59) : stk (fs ++ [⟨nm, n⟩]) := by
  refine ⟨by simp, ?_⟩
  rw [List.all_append, h.2]
  simp [frameOk, hn, btw_mk hl.1 hl.2]
theorem lit3 {x : Nat} (h : (x : Int) < 3) : ∃ nm : ByteArray, (#[Value.string { data := #[102] }, Value.string { data := #[103, 103] }, Value.string { data := #[104] }] : Array Value)[x]? = some (.string nm) ∧ nameOk nm = true ∧ nm.size ≤ 9 := by
  have : x = 0 ∨ x = 1 ∨ x = 2 := by omega
  rcases this with rfl | rfl | rfl
  · exact ⟨_, rfl, by decide, by decide⟩
  · exact ⟨_, rfl, by decide, by decide⟩
  · exact ⟨_, rfl, by decide, by decide⟩
set_option maxRecDepth 100000 in
set_option maxHeartbeats 2000000 in
theorem stack_s {w W : World} {k : Nat} (hC : Cur w W k) : Calls Tryd.prog 15 #[.pointer (some ⟨k, 0, none⟩)] W fun e W' => ∃ A c fs, e = .returned (.slice A fs.length c) ∧ stk fs ∧ fs.length ≤ 4 ∧ Cur w W' k ∧ OnlyS [k] W W' ∧ FrN (tFrame.sl 50) W.heap.size W'.heap.size W' [.slice A fs.length c] fs := by
  go_enter Tryd.func15, Tryd.ntmps15
  go_wp2_with (fail)
  refine (below_s hC 3 (by decide) (by decide)).mono ?_
  rintro e W1 ⟨x1, rfl, hx1, hC1, hS1⟩
  go_wp2_with (fail)
  refine (below_s (hC1.more (by repeat (first | with_reducible exact Gro.refl _ | with_reducible exact Gro.refl_drew _ _ _ | with_reducible exact Gro.refl_drewN _ _ _ _ | assumption | with_reducible apply Gro.more | with_reducible apply Gro.alloc | with_reducible apply Gro.drew | with_reducible apply Gro.drewN))) 4 (by decide) (by decide)).mono ?_
  rintro e W2 ⟨x2, rfl, hx2, hC2, hS2⟩
  go_wp2_with (fail)
  go_loopw [3, 4] (fun a b wr => ∃ (j : Nat) (A : Option Addr) (c : Nat) (fs : List DFrame), a = .slice A fs.length c ∧ b = .int .i64 j ∧ j + fs.length ≤ 4 ∧ Hid (stk fs) ∧ Cur w wr k ∧ OnlyS [k] W wr ∧ FrN (tFrame.sl 50) W.heap.size wr.heap.size wr [.slice A fs.length c] fs) (fun _ b _ => (intOf b).toNat)
  case atStart =>
    have h0 : FrN (tFrame.sl 50) W.heap.size (W1.heap.size + 1) (W1.alloc (.cells #[.string { data := #[109, 97, 105, 110] }, .int .i64 (1 + x1)] 50)) [.slice (some ⟨W1.heap.size, 0, none⟩) 1 1] [⟨{ data := #[109, 97, 105, 110] }, 1 + x1⟩] := by
      have h1 := fresh_one (e := 50) flatFrame (W0 := W1) (W := W1) (W1 := w) (B := 0) (ec := [.string { data := #[109, 97, 105, 110] }, .int .i64 (1 + x1)]) (x := ⟨{ data := #[109, 97, 105, 110] }, 1 + x1⟩) (tFrame_mkR (x := ⟨{ data := #[109, 97, 105, 110] }, 1 + x1⟩) (by simp only; decide) ⟨by simp only; omega, by simp only; omega⟩) (Gro.refl _) rfl
      exact h1.frN.wide hS1.size (by simp)
    exact ⟨x2, _, 1, [⟨{ data := #[109, 97, 105, 110] }, 1 + x1⟩], rfl, rfl, by simp only [List.length_cons, List.length_nil]; omega, Lib.hid ⟨by simp, by simp [frameOk, show nameOk { data := #[109, 97, 105, 110] } = true by decide]; exact btw_mk (by omega) (by omega)⟩, hC2, (hS1.trans (Gro.only (by repeat (first | with_reducible exact Gro.refl _ | with_reducible exact Gro.refl_drew _ _ _ | with_reducible exact Gro.refl_drewN _ _ _ _ | assumption | with_reducible apply Gro.more | with_reducible apply Gro.alloc | with_reducible apply Gro.drew | with_reducible apply Gro.drewN)) _)).trans hS2, (h0.only hS2 hC.lt).wide (Nat.le_refl _) (by have := hS2.size; simpa using this)⟩
  case round =>
    obtain ⟨j, A, c, fs, rfl, rfl, hj, hst, hC3, hS3, hF3⟩ := hrel
    by_cases hlt : 0 < j
    · go_wp2_with (fail)
      have hkl := hC3.lt
      have hkW := hC.lt
      have hWr := hS3.size
      go_region_law (first
        | (go_simp; go_at_call 14; (with_reducible refine (below_s (hC4.more (by (repeat (first | with_reducible exact Gro.refl _ | with_reducible exact Gro.refl_drew _ _ _ | with_reducible exact Gro.refl_drewN _ _ _ _ | assumption | with_reducible apply Gro.more | with_reducible apply Gro.alloc | with_reducible apply Gro.drew | with_reducible apply Gro.drewN)); done)) 3 (by decide) (by decide)).mono ?_); rintro e W5 ⟨x5, rfl, hx5, hC5, hS5⟩; have hSS : OnlyS [k] wr W5 := (Gro.only (by repeat (first | with_reducible exact Gro.refl _ | with_reducible exact Gro.refl_drew _ _ _ | with_reducible exact Gro.refl_drewN _ _ _ _ | assumption | with_reducible apply Gro.more | with_reducible apply Gro.alloc | with_reducible apply Gro.drew | with_reducible apply Gro.drewN)) _).trans (hS4.trans ((Gro.only (by repeat (first | with_reducible exact Gro.refl _ | with_reducible exact Gro.refl_drew _ _ _ | with_reducible exact Gro.refl_drewN _ _ _ _ | assumption | with_reducible apply Gro.more | with_reducible apply Gro.alloc | with_reducible apply Gro.drew | with_reducible apply Gro.drewN)) _).trans hS5)); have hF5 := hF3.only hSS hkW; have hz5 := hSS.size; have hwr : IntKind.i64.wrap (4 + (x5 : Int)) = 4 + x5 := IntWalk.i64_in _ ⟨by omega, by omega⟩; (try have hcl := (hS5.cell (g := wr.heap.size) (by have := hS4.size; simp at this; simp; omega) (by simp; omega) x4).trans hcl); have hl4 := hC4.lt; (try have hcl2 := (hS5.cell (g := W4.heap.size) (by simp) (by simp; omega) x4).trans (show _ = some (Value.string nm) from by simpa [go_sem] using hnm)))
        | (go_simp; go_at_call 14; (with_reducible refine (below_s (hC3.more (by (repeat (first | with_reducible exact Gro.refl _ | with_reducible exact Gro.refl_drew _ _ _ | with_reducible exact Gro.refl_drewN _ _ _ _ | assumption | with_reducible apply Gro.more | with_reducible apply Gro.alloc | with_reducible apply Gro.drew | with_reducible apply Gro.drewN)); done)) 3 (by decide) (by decide)).mono ?_); rintro e W4 ⟨x4, rfl, hx4, hC4, hS4⟩; obtain ⟨nm, hnm, hok, hsz⟩ := lit3 hx4; try have hcl := (hS4.cell (g := wr.heap.size) (by simp) (by simp; omega) x4).trans (show _ = some (Value.string nm) from by simpa [go_sem] using hnm))
        | (refine step_append_up (lo := W.heap.size) (L := fs.length + 1) rfl (.tmp 16) (.tmp 26) elFrame flatFrame (hF5.gro (by (repeat (first | with_reducible exact Gro.refl _ | with_reducible exact Gro.refl_drew _ _ _ | with_reducible exact Gro.refl_drewN _ _ _ _ | assumption | with_reducible apply Gro.more | with_reducible apply Gro.alloc | with_reducible apply Gro.drew | with_reducible apply Gro.drewN)); done)) (by simp; omega) (by simp; omega) (W1 := w) (B := 0) (ec := [.string nm, .int .i64 (4 + x5)]) (y := ⟨nm, 4 + x5⟩) (tFrame_mkR (x := ⟨nm, 4 + x5⟩) (by simp only; omega) ⟨by simp only; omega, by simp only; omega⟩) rfl rfl rfl (by intro j u hu; simpa [go_sem, hwr] using hu) rfl (by omega) (by omega) ?_; intro A6 c6 W6 hb6 hF6))
      all_goals go_wp2_with (fail)
      all_goals go_roundw
      all_goals try (case measure => simp [intOf]; omega)
      all_goals refine ⟨j - 1, A6, c6, fs ++ [⟨nm, 4 + x5⟩], by simp, by go_num, by simp only [List.length_append, List.length_cons, List.length_nil]; omega, Lib.hid (stk_snoc hst.out hok ⟨by omega, by omega⟩), (hC5.more (by repeat (first | with_reducible exact Gro.refl _ | with_reducible exact Gro.refl_drew _ _ _ | with_reducible exact Gro.refl_drewN _ _ _ _ | assumption | with_reducible apply Gro.more | with_reducible apply Gro.alloc | with_reducible apply Gro.drew | with_reducible apply Gro.drewN))).below hb6 hkW, (hS3.trans (hSS.trans (Gro.only (by repeat (first | with_reducible exact Gro.refl _ | with_reducible exact Gro.refl_drew _ _ _ | with_reducible exact Gro.refl_drewN _ _ _ _ | assumption | with_reducible apply Gro.more | with_reducible apply Gro.alloc | with_reducible apply Gro.drew | with_reducible apply Gro.drewN)) _))).below hb6 (Nat.le_refl _), by rw [List.length_append]; exact hF6⟩
    · obtain rfl : j = 0 := by omega
      go_wp2_with (fail)
      go_ret
      exact ⟨A, c, fs, rfl, hst.out, by omega, hC3, hS3, hF3⟩
theorem elStk : Elem Tryd.prog 24 35 (tFrame.sl 50) 24 := by
  refine ⟨Tryd.underlying24, ?_, by decide⟩
  have h : (Tryd.prog.info? 35).map (fun i => (i.zero, i.size, i.bytes)) = some (some (.slice none 0 0), 1, 24) := by kernel_rfl
  cases hi : Tryd.prog.info? 35 with
  | none => rw [hi] at h; simp at h
  | some i =>
    rw [hi] at h
    simp only [Option.map_some, Option.some.injEq, Prod.mk.injEq] at h
    exact ⟨i, _, rfl, h.1, h.2.1, h.2.2, rfl⟩
def stks (l : List (List DFrame)) : Prop := ∀ s ∈ l, stk s ∧ s.length ≤ 4
set_option maxRecDepth 100000 in
set_option maxHeartbeats 2000000 in
theorem stacks_s {w : World} {A : Option Addr} {n c : Nat} {xs : List UInt8} (hx : (byteT.sl 5).R w w.heap.size [.slice A n c] xs) (hl : xs.length ≤ 1099511627776) : Calls Tryd.prog 5 #[.slice A n c] w fun e W' => ∃ A' c' l, e = .returned (.slice A' l.length c') ∧ stks l ∧ l.length ≤ 7 ∧ Gro w W' ∧ Fresh ((tFrame.sl 50).sl 35) w W' [.slice A' l.length c'] l := by
  go_enter Tryd.func5, Tryd.ntmps5
  go_wp2_with (fail)
  refine (new_s hx hl).mono ?_
  rintro e W1 ⟨k, rfl, hC1⟩
  go_wp2_with (fail)
  refine (below_s (hC1.more (by repeat (first | with_reducible exact Gro.refl _ | with_reducible exact Gro.refl_drew _ _ _ | with_reducible exact Gro.refl_drewN _ _ _ _ | assumption | with_reducible apply Gro.more | with_reducible apply Gro.alloc | with_reducible apply Gro.drew | with_reducible apply Gro.drewN))) 8 (by decide) (by decide)).mono ?_
  rintro e W2 ⟨x2, rfl, hx2, hC2, hS2⟩
  have hk1 := hC1.lt
  have hz2 := hS2.size
  simp at hz2
  have hlo := hC1.lo
  go_wp2_with (fail)
  go_loopw [4, 5] (fun a b wr => ∃ (j : Nat) (A' : Option Addr) (c' : Nat) (l : List (List DFrame)), a = .slice A' l.length c' ∧ b = .int .i64 j ∧ j + l.length ≤ 7 ∧ Hid (stks l) ∧ Cur w wr k ∧ k + 1 ≤ wr.heap.size ∧ FrN ((tFrame.sl 50).sl 35) (k + 1) wr.heap.size wr [.slice A' l.length c'] l) (fun _ b _ => (intOf b).toNat)
  case atStart =>
    have h0 : FrN ((tFrame.sl 50).sl 35) (k + 1) (W1.heap.size + 1) (W1.alloc (.cells #[] 35)) [.slice (some ⟨W1.heap.size, 0, none⟩) 0 0] [] :=
      ⟨[W1.heap.size], own_made (xs := []) (heap_alloc_new W1 _) (show Rows _ _ _ [] [] from ⟨rfl, rfl⟩) (by simp), by simp, fun b hb => by simp at hb; omega⟩
    exact ⟨x2, _, 0, [], rfl, rfl, by simp only [List.length_nil]; omega, Lib.hid (fun s hs => by cases hs), hC2, by omega, (h0.only hS2 (by omega)).wide (Nat.le_refl _) (by have := hS2.size; simpa using this)⟩
  case round =>
    obtain ⟨j, A', c', l, rfl, rfl, hj, hst, hC3, hz3, hF3⟩ := hrel
    by_cases hlt : 0 < j
    · go_wp2_with (fail)
      refine (stack_s (hC3.more (by repeat (first | with_reducible exact Gro.refl _ | with_reducible exact Gro.refl_drew _ _ _ | with_reducible exact Gro.refl_drewN _ _ _ _ | assumption | with_reducible apply Gro.more | with_reducible apply Gro.alloc | with_reducible apply Gro.drew | with_reducible apply Gro.drewN)))).mono ?_
      rintro e W4 ⟨A4, c4, fs, rfl, hfs, hfl, hC4, hS4, hF4⟩
      have hz4 := hS4.size
      have hF5 := hF3.only hS4 (by omega)
      go_wp2_with (refine wpList_append_up (lo := k + 1) (L := l.length + 1) rfl (.tmp 15) (.tmp 18) elStk (We := wr) (ec := [.slice A4 fs.length c4]) (y := fs) (hF5.gro (by (repeat (first | with_reducible exact Gro.refl _ | with_reducible exact Gro.refl_drew _ _ _ | with_reducible exact Gro.refl_drewN _ _ _ _ | assumption | with_reducible apply Gro.more | with_reducible apply Gro.alloc | with_reducible apply Gro.drew | with_reducible apply Gro.drewN)); done)) (by simp; omega) ((hF4.gro (by repeat (first | with_reducible exact Gro.refl _ | with_reducible exact Gro.refl_drew _ _ _ | with_reducible exact Gro.refl_drewN _ _ _ _ | assumption | with_reducible apply Gro.more | with_reducible apply Gro.alloc | with_reducible apply Gro.drew | with_reducible apply Gro.drewN))).fresh (Nat.le_refl _)) (Nat.le_refl _) hz3 rfl rfl rfl (by intro j u hu; simpa [go_sem] using hu) rfl (by omega) (by omega) ?_; intro A6 c6 W6 hb6 hF6)
      go_roundw
      case measure => simp [intOf]; omega
      case rel =>
        have hz6 := hb6.size
        simp at hz6
        refine ⟨j - 1, A6, c6, l ++ [fs], by simp, by go_num, by simp only [List.length_append, List.length_cons, List.length_nil]; omega, Lib.hid (fun s hs => ?_), (hC4.more (by repeat (first | with_reducible exact Gro.refl _ | with_reducible exact Gro.refl_drew _ _ _ | with_reducible exact Gro.refl_drewN _ _ _ _ | assumption | with_reducible apply Gro.more | with_reducible apply Gro.alloc | with_reducible apply Gro.drew | with_reducible apply Gro.drewN))).below hb6 (by omega), by omega, by rw [List.length_append]; exact hF6⟩
        rcases List.mem_append.1 hs with h | h
        · exact hst.out s h
        · rw [List.mem_singleton] at h
          subst h
          exact ⟨hfs, hfl⟩
    · obtain rfl : j = 0 := by omega
      go_wp2_with (fail)
      go_ret
      exact ⟨A', c', l, rfl, hst.out, by omega, hC3.gro, hF3.fresh (by omega)⟩
end Go.Proofs.YtdlkoffandhclaaDoor
namespace Go.Proofs.YtdlkoffandhclaaDoor
open Go.RowKit
def cOk (cs : List (List DFrame × Int)) : Prop := ∀ x ∈ cs, stk x.1 ∧ x.1.length ≤ 4 ∧ 0 ≤ x.2 ∧ x.2 ≤ 8
def prs (xs : List UInt8) (l : List (List DFrame)) : List (List DFrame × Int) := l.mapIdx fun i s => (s, ((byteAt xs i % 9 : Nat) : Int))
theorem prs_len (xs : List UInt8) (l : List (List DFrame)) : (prs xs l).length = l.length := by simp [prs]
theorem prs_get {xs : List UInt8} {l : List (List DFrame)} {k : Nat} {s : List DFrame} (h : l[k]? = some s) : (prs xs l)[k]? = some (s, ((byteAt xs k % 9 : Nat) : Int)) := by
  unfold prs
  rw [List.getElem?_mapIdx, h]
  rfl
theorem prs_ok {xs : List UInt8} {l : List (List DFrame)} (h : stks l) : cOk (prs xs l) := by
  intro x hx
  obtain ⟨k, hk, rfl⟩ := List.getElem_of_mem hx
  have hk2 : k < l.length := by rw [prs_len] at hk; exact hk
  have h1 := prs_get (xs := xs) (List.getElem?_eq_getElem hk2)
  rw [List.getElem?_eq_getElem hk] at h1
  injection h1 with h1
  rw [h1]
  have h2 := h _ (List.getElem_mem hk2)
  exact ⟨h2.1, h2.2, by simp only; omega, by simp only; omega⟩
theorem addAll_snoc (cs : List (List DFrame × Int)) (x : List DFrame × Int) (p : DProfile) : addAll (cs ++ [x]) p = (addStack (addAll cs p) x.1 x.2).1 := by simp [addAll]
theorem addAll_nodes : ∀ (cs : List (List DFrame × Int)) (p : DProfile), (∀ x ∈ cs, x.1.length ≤ 4) → (addAll cs p).Stacks.Nodes.length ≤ p.Stacks.Nodes.length + 4 * cs.length
  | [], p, _ => by simp [addAll]
  | x :: cs, p, h => by
    have h1 := addAll_nodes cs (addStack p x.1 x.2).1 (fun y hy => h y (List.mem_cons_of_mem _ hy))
    have h2 := (addStack_len p x.1 x.2).1
    have h3 := h x List.mem_cons_self
    have he : addAll (x :: cs) p = addAll cs (addStack p x.1 x.2).1 := rfl
    rw [he, List.length_cons]
    omega
theorem sum_bd : ∀ {cs : List (List DFrame × Int)}, cOk cs → 0 ≤ (cs.map Prod.snd).sum ∧ (cs.map Prod.snd).sum ≤ 8 * cs.length
  | [], _ => by simp
  | x :: cs, h => by
    have h1 := sum_bd (cs := cs) fun y hy => h y (List.mem_cons_of_mem _ hy)
    have h2 := h x List.mem_cons_self
    simp only [List.map_cons, List.sum_cons, List.length_cons]
    omega
/-- what the profile of so many stacks is -/
theorem cp_of {cs : List (List DFrame × Int)} (h : cOk cs) (hl : cs.length ≤ 7) : profileOk (addAll cs emptyP) = true ∧ totalOf (addAll cs emptyP) = (cs.map Prod.snd).sum ∧ 0 ≤ totalOf (addAll cs emptyP) ∧ totalOf (addAll cs emptyP) ≤ 8 * cs.length ∧ (addAll cs emptyP).Stacks.Nodes.length ≤ 28 ∧ (addAll cs emptyP).Counts.length ≤ 28 ∧
    ∀ m, countOf (addAll cs emptyP) m = (cs.map fun x => if m = x.1 then x.2 else 0).sum := by
  have hb := sum_bd h
  obtain ⟨h1, h2, h3⟩ := addAll_spec (l := cs) (p := emptyP) emptyP_ok (fun x hx => ⟨(h x hx).1.1, (h x hx).1.2, (h x hx).2.2.1⟩) (by rw [total_empty]; omega)
  rw [total_empty, Int.zero_add] at h2
  have h4 := addAll_nodes cs emptyP (fun x hx => (h x hx).2.1)
  have h5 := pOk_len h1
  have h6 : emptyP.Stacks.Nodes.length = 0 := rfl
  refine ⟨h1, h2, by omega, by omega, by omega, by omega, fun m => by rw [h3 m, countOf_empty, Int.zero_add]⟩
theorem cOk.take {cs : List (List DFrame × Int)} (h : cOk cs) (k : Nat) : cOk (cs.take k) := fun x hx => h x (List.mem_of_mem_take hx)
theorem cOk.back {cs : List (List DFrame × Int)} (h : cOk cs) (k : Nat) : cOk (cs.drop k).reverse := fun x hx => h x (List.mem_of_mem_drop (List.mem_reverse.1 hx))
theorem back_snoc {cs : List (List DFrame × Int)} {k : Nat} {x : List DFrame × Int} (h : cs[k]? = some x) : (cs.drop k).reverse = (cs.drop (k + 1)).reverse ++ [x] := by
  rw [drop_at h, List.reverse_cons]
theorem sum_rev (l : List Int) : l.reverse.sum = l.sum := sum_perm (List.reverse_perm l)
theorem counted_same {cs : List (List DFrame × Int)} (h : cOk cs) (hl : cs.length ≤ 7) : sameP (addAll cs emptyP) (addAll cs.reverse emptyP) = true := by
  have h1 := cp_of h hl
  have h2 := cp_of (cs := cs.reverse) (fun x hx => h x (List.mem_reverse.1 hx)) (by rw [List.length_reverse]; exact hl)
  have h3 := ents_ext h1.1 h2.1 (fun m => by rw [h1.2.2.2.2.2.2, h2.2.2.2.2.2.2, List.map_reverse, sum_rev])
  unfold sameP
  rw [h1.1, h2.1, h3]
  simp
/-- what is wanted of a stack, so far -/
def wantTo (cs : List (List DFrame × Int)) (m : List DFrame) (i : Nat) : Int := ((cs.take i).map fun x => if m = x.1 then x.2 else 0).sum
theorem want_step {cs : List (List DFrame × Int)} {m : List DFrame} {i : Nat} {x : List DFrame × Int} (h : cs[i]? = some x) : wantTo cs m (i + 1) = wantTo cs m i + if m = x.1 then x.2 else 0 := by
  unfold wantTo
  rw [take_snoc h, List.map_append, List.sum_append]
  simp
theorem want_bd {cs : List (List DFrame × Int)} (h : cOk cs) (m : List DFrame) : ∀ i, 0 ≤ wantTo cs m i ∧ wantTo cs m i ≤ 8 * i
  | 0 => by simp [wantTo]
  | i + 1 => by
    have h1 := want_bd h m i
    by_cases hi : i < cs.length
    · have h2 := List.getElem?_eq_getElem hi
      rw [want_step h2]
      have h3 := h _ (List.mem_of_getElem? h2)
      split <;> omega
    · have h2 : wantTo cs m (i + 1) = wantTo cs m i := by
        unfold wantTo
        rw [List.take_of_length_le (by omega), List.take_of_length_le (by omega)]
      omega
def sumTo (cs : List (List DFrame × Int)) (k : Nat) : Int := ((cs.take k).map Prod.snd).sum
theorem sumTo_step {cs : List (List DFrame × Int)} {i : Nat} {x : List DFrame × Int} (h : cs[i]? = some x) : sumTo cs (i + 1) = sumTo cs i + x.2 := by
  unfold sumTo
  rw [take_snoc h, List.map_append, List.sum_append]
  simp
end Go.Proofs.YtdlkoffandhclaaDoor
namespace Go.Proofs.YtdlkoffandhclaaDoor
open Go.RowKit
set_option maxRecDepth 100000 in
set_option maxHeartbeats 2000000 in
theorem sameFrames_l {xs ys : List DFrame} {w : World} {A A' : Option Addr} {c c' : Nat} (hx : (tFrame.sl 50).R w w.heap.size [.slice A xs.length c] xs) (hy : (tFrame.sl 50).R w w.heap.size [.slice A' ys.length c'] ys) :
    Calls Tryd.prog 8 #[.slice A xs.length c, .slice A' ys.length c'] w fun e w' => e = .returned (.bool (decide (xs = ys))) ∧ Gro w w' := by
  obtain ⟨_, _, hv, h1, h2⟩ := sl_at hx
  obtain ⟨_, _, hv', k1, k2⟩ := sl_at hy
  injection hv with q1 _ q2
  injection hv' with q3 _ q4
  subst q1 q2 q3 q4
  by_cases hl : xs.length = ys.length
  · have hne : ((xs.length : Int) != (ys.length : Int)) = false := by simp [hl]
    have HL := Lib.hid hl
    have hll : xs.length ≤ ys.length := by omega
    clear hl
    go_enter Tryd.func8, Tryd.ntmps8
    go_wp2_with (fail)
    go_loopw [5] (fun i wr => ∃ k : Nat, k ≤ xs.length ∧ i = .int .i64 k ∧ Hid (Gro w wr) ∧ Hid (xs.take k = ys.take k)) (fun i _ => xs.length - (intOf i).toNat)
    case atStart => exact ⟨0, Nat.zero_le _, rfl, Gro.refl _, Lib.hid (by simp)⟩
    case round =>
      obtain ⟨k, hk, rfl, hG, HT⟩ := hrel
      obtain ⟨os, d, rfl⟩ := hG.out
      clear hG
      by_cases hlt : k < xs.length
      · have hlt2 : k < ys.length := by omega
        obtain ⟨g, off, x, rfl, hgb, hxk, hx0, hx1, bx0, bx1⟩ := atFrame hx hlt
        obtain ⟨g', off', y, rfl, hgb', hyk, hy0, hy1, by0, by1⟩ := atFrame hy hlt2
        have HX := Lib.hid hxk
        have HY := Lib.hid hyk
        have hi1 : (k : Int) < (xs.length : Int) := by omega
        have hi2 : (k : Int) < (ys.length : Int) := by omega
        clear hxk hyk hx hy
        by_cases hs : x.Name = y.Name
        · have hsb : (x.Name.toList == y.Name.toList) = true := by rw [str_eqb]; simp [hs]
          by_cases hc : x.Line = y.Line
          · have hcb : (x.Line == y.Line) = true := by simp [hc]
            have HXY := Lib.hid (show x = y from by cases x; cases y; simp only at hs hc; rw [hs, hc])
            clear hs hc
            go_wp2_with (fail)
            go_quiet (fail)
            go_wp2_with (fail)
            go_roundw
            case rel => exact ⟨k + 1, by omega, by go_num, Lib.hid (by repeat (first | with_reducible exact Gro.refl _ | with_reducible exact Gro.refl_drew _ _ _ | with_reducible exact Gro.refl_drewN _ _ _ _ | assumption | with_reducible apply Gro.more | with_reducible apply Gro.alloc | with_reducible apply Gro.drew | with_reducible apply Gro.drewN)), Lib.hid (by rw [take_snoc HX.out, take_snoc HY.out, HT.out, HXY.out])⟩
            case measure => simp [intOf]; omega
          · have hcb : (x.Line == y.Line) = false := by simp [hc]
            have HXY := Lib.hid (show x ≠ y from by rintro rfl; exact hc rfl)
            clear hs hc
            go_wp2_with (fail)
            go_quiet (fail)
            go_wp2_with (fail)
            go_ret
            refine ⟨ret_bool ?_, (by repeat (first | with_reducible exact Gro.refl _ | with_reducible exact Gro.refl_drew _ _ _ | with_reducible exact Gro.refl_drewN _ _ _ _ | assumption | with_reducible apply Gro.more | with_reducible apply Gro.alloc | with_reducible apply Gro.drew | with_reducible apply Gro.drewN))⟩
            symm
            simp only [decide_eq_false_iff_not]
            rintro rfl
            have h9 := HX.out.symm.trans HY.out
            simp at h9
            exact HXY.out h9
        · have hsb : (x.Name.toList == y.Name.toList) = false := by rw [str_eqb]; simp [hs]
          have HXY := Lib.hid (show x ≠ y from by rintro rfl; exact hs rfl)
          clear hs
          go_wp2_with (fail)
          go_quiet (fail)
          go_wp2_with (fail)
          go_ret
          refine ⟨ret_bool ?_, (by repeat (first | with_reducible exact Gro.refl _ | with_reducible exact Gro.refl_drew _ _ _ | with_reducible exact Gro.refl_drewN _ _ _ _ | assumption | with_reducible apply Gro.more | with_reducible apply Gro.alloc | with_reducible apply Gro.drew | with_reducible apply Gro.drewN))⟩
          symm
          simp only [decide_eq_false_iff_not]
          rintro rfl
          have h9 := HX.out.symm.trans HY.out
          simp at h9
          exact HXY.out h9
      · go_wp2
        go_ret
        refine ⟨ret_bool ?_, (by repeat (first | with_reducible exact Gro.refl _ | with_reducible exact Gro.refl_drew _ _ _ | with_reducible exact Gro.refl_drewN _ _ _ _ | assumption | with_reducible apply Gro.more | with_reducible apply Gro.alloc | with_reducible apply Gro.drew | with_reducible apply Gro.drewN))⟩
        have : k = xs.length := by omega
        subst this
        have h1 := HT.out
        rw [HL.out] at h1
        simp only [List.take_length] at h1
        rw [← HL.out] at h1
        simp at h1
        simp [h1]
  · have hne : ((xs.length : Int) != (ys.length : Int)) = true := by simp; omega
    go_enter Tryd.func8, Tryd.ntmps8
    go_wp2
    go_ret
    exact ⟨ret_bool (by symm; simp only [decide_eq_false_iff_not]; rintro rfl; exact hl rfl), Gro.refl _⟩
end Go.Proofs.YtdlkoffandhclaaDoor
namespace Go.Proofs.YtdlkoffandhclaaDoor
open Go.RowKit
theorem box2 {W : World} {g : Nat} {a b : Value} {e : TypeId} (h : W.heap[g]? = some (.cells #[a, b] e (0, 0))) :
    W.cell? ⟨g, 0, none⟩ = some a ∧ W.cell? ⟨g, 1, none⟩ = some b ∧ W.frozen? ⟨g, 0, none⟩ = false ∧ W.frozen? ⟨g, 1, none⟩ = false ∧ g < W.heap.size := by
  refine ⟨?_, ?_, by simp [World.frozen?, h], by simp [World.frozen?, h], (Array.getElem?_eq_some_iff.1 h).1⟩
  all_goals
    rw [cell_of_row W g _ _ _ (0, 0) h]
    rfl
theorem set2 {W : World} {g : Nat} {p q : Value} {e : TypeId} (h : W.heap[g]? = some (.cells #[p, q] e (0, 0))) (a b : Value) :
    ((W.setCell ⟨g, 0, none⟩ a).setCell ⟨g, 1, none⟩ b).heap[g]? = some (.cells #[a, b] e (0, 0)) ∧ OnlyS [g] W ((W.setCell ⟨g, 0, none⟩ a).setCell ⟨g, 1, none⟩ b) :=
  ⟨heap_setCell_at (heap_setCell_at h 0 a) 1 b, ((OnlyS.refl _ _).setCell (p := ⟨g, 0, none⟩) (by simp) a).setCell (p := ⟨g, 1, none⟩) (by simp) b⟩
theorem only_below {a b : World} {g lo : Nat} (h : OnlyS [g] a b) (hl : lo ≤ g) (hg : g < a.heap.size) : Below lo a b :=
  ⟨h.os, h.tape, h.output, h.size, fun i hi => h.block i (by omega) (by simp; omega)⟩
theorem FrN.onlyL {α : Type} {T : Ty α} {lo hi : Nat} {L : List Nat} {a b : World} {cs : List Value} {x : α} (h : FrN T lo hi a cs x) (hs : OnlyS L a b) (hk : ∀ k ∈ L, k < lo) : FrN T lo hi b cs x := by
  obtain ⟨S, h1, h2, h3⟩ := h
  exact ⟨S, T.keepO h1 (fun j hj => hs.block j (T.ltO h1 j hj) (fun hm => by have := h3 j hj; have := hk j hm; omega)), h2, h3⟩
theorem grow_blk {S Y : World} {k : Nat} {o : Obj} (h : S.heap[k]? = some o) (hG : Gro S Y) : Y.heap[k]? = some o :=
  (hG.block (Array.getElem?_eq_some_iff.1 h).1).trans h
/-- a box of four numbers -/
theorem box4 {W : World} {g : Nat} {a b c d : Value} {e : TypeId} (h : W.heap[g]? = some (.cells #[a, b, c, d] e (0, 0))) :
    W.cell? ⟨g, 0, none⟩ = some a ∧ W.cell? ⟨g, 1, none⟩ = some b ∧ W.cell? ⟨g, 2, none⟩ = some c ∧ W.cell? ⟨g, 3, none⟩ = some d ∧ (∀ j, W.frozen? ⟨g, j, none⟩ = false) := by
  refine ⟨?_, ?_, ?_, ?_, fun j => by simp [World.frozen?, h]⟩
  all_goals
    rw [cell_of_row W g _ _ _ (0, 0) h]
    rfl
theorem set4 {W : World} {g : Nat} {p q r s : Value} {e : TypeId} (h : W.heap[g]? = some (.cells #[p, q, r, s] e (0, 0))) (a b c d : Value) :
    ((((W.setCell ⟨g, 0, none⟩ a).setCell ⟨g, 1, none⟩ b).setCell ⟨g, 2, none⟩ c).setCell ⟨g, 3, none⟩ d).heap[g]? = some (.cells #[a, b, c, d] e (0, 0)) ∧ OnlyS [g] W ((((W.setCell ⟨g, 0, none⟩ a).setCell ⟨g, 1, none⟩ b).setCell ⟨g, 2, none⟩ c).setCell ⟨g, 3, none⟩ d) :=
  ⟨heap_setCell_at (heap_setCell_at (heap_setCell_at (heap_setCell_at h 0 a) 1 b) 2 c) 3 d, ((((OnlyS.refl _ _).setCell (p := ⟨g, 0, none⟩) (by simp) a).setCell (p := ⟨g, 1, none⟩) (by simp) b).setCell (p := ⟨g, 2, none⟩) (by simp) c).setCell (p := ⟨g, 3, none⟩) (by simp) d⟩
end Go.Proofs.YtdlkoffandhclaaDoor
namespace Go.Proofs.YtdlkoffandhclaaDoor
open Go.RowKit
/-- a profile's box -/
structure PB (W : World) (n : Nat) (p : DProfile) (A0 : Option Addr) (c0 : Nat) (A1 : Option Addr) (c1 : Nat) : Prop where
  blk : W.heap[n]? = some (.cells #[.slice A0 p.Stacks.Nodes.length c0, .slice A1 p.Counts.length c1] 31 (0, 0))
  rd : tProfile.R W W.heap.size [.slice A0 p.Stacks.Nodes.length c0, .slice A1 p.Counts.length c1] p
theorem PB.up {W W' : World} {n : Nat} {p : DProfile} {A0 : Option Addr} {c0 : Nat} {A1 : Option Addr} {c1 : Nat} (h : PB W n p A0 c0 A1 c1) (hg : Gro W W') : PB W' n p A0 c0 A1 c1 := ⟨grow_blk h.blk hg, Ty.up _ h.rd hg⟩
theorem PB.new {X : World} {p : DProfile} {A0 : Option Addr} {c0 : Nat} {A1 : Option Addr} {c1 : Nat} (h : tProfile.R X X.heap.size [.slice A0 p.Stacks.Nodes.length c0, .slice A1 p.Counts.length c1] p) {n : Nat} (hn : X.heap.size = n) :
    PB (X.alloc (.cells #[.slice A0 p.Stacks.Nodes.length c0, .slice A1 p.Counts.length c1] 31)) n p A0 c0 A1 c1 := by
  subst hn
  exact ⟨heap_alloc_new X _, Ty.up _ h ((Gro.refl _).alloc _)⟩
theorem PB.cells {W : World} {n : Nat} {p : DProfile} {A0 : Option Addr} {c0 : Nat} {A1 : Option Addr} {c1 : Nat} (h : PB W n p A0 c0 A1 c1) : W.cell? ⟨n, 0, none⟩ = some (.slice A0 p.Stacks.Nodes.length c0) ∧ W.cell? ⟨n, 1, none⟩ = some (.slice A1 p.Counts.length c1) ∧ n < W.heap.size := by
  obtain ⟨h0, h1, _, _, h2⟩ := box2 h.blk
  exact ⟨h0, h1, h2⟩
theorem PB.nodes {W : World} {n : Nat} {p : DProfile} {A0 : Option Addr} {c0 : Nat} {A1 : Option Addr} {c1 : Nat} (h : PB W n p A0 c0 A1 c1) : (tNode.sl 66).R W W.heap.size [.slice A0 p.Stacks.Nodes.length c0] p.Stacks.Nodes := (rdProf h.rd).1
theorem PB.counts {W : World} {n : Nat} {p : DProfile} {A0 : Option Addr} {c0 : Nat} {A1 : Option Addr} {c1 : Nat} (h : PB W n p A0 c0 A1 c1) : (intT.sl 3).R W W.heap.size [.slice A1 p.Counts.length c1] p.Counts := (rdProf h.rd).2
/-- a literal list of three profiles -/
theorem three_R {W : World} {g : Nat} {p q r : DProfile} {A0 A1 A2 A3 A4 A5 : Option Addr} {c0 c1 c2 c3 c4 c5 : Nat} (hg : W.heap[g]? = some (.cells #[.slice A0 p.Stacks.Nodes.length c0, .slice A1 p.Counts.length c1, .slice A2 q.Stacks.Nodes.length c2, .slice A3 q.Counts.length c3, .slice A4 r.Stacks.Nodes.length c4, .slice A5 r.Counts.length c5] 31 (0, 0)))
    (hp : tProfile.R W W.heap.size [.slice A0 p.Stacks.Nodes.length c0, .slice A1 p.Counts.length c1] p) (hq : tProfile.R W W.heap.size [.slice A2 q.Stacks.Nodes.length c2, .slice A3 q.Counts.length c3] q) (hr : tProfile.R W W.heap.size [.slice A4 r.Stacks.Nodes.length c4, .slice A5 r.Counts.length c5] r) :
    (tProfile.sl 31).R W W.heap.size [.slice (some ⟨g, 0, none⟩) ([p, q, r] : List DProfile).length 3] [p, q, r] := by
  refine ⟨_, 3, rfl, by simp, by omega, by simp, fun _ => ⟨g, 0, rfl, (Array.getElem?_eq_some_iff.1 hg).1, fun i x hx => ?_⟩⟩
  have hc : ∀ j, W.cell? ⟨g, j, none⟩ = (#[Value.slice A0 p.Stacks.Nodes.length c0, .slice A1 p.Counts.length c1, .slice A2 q.Stacks.Nodes.length c2, .slice A3 q.Counts.length c3, .slice A4 r.Stacks.Nodes.length c4, .slice A5 r.Counts.length c5] : Array Value)[j]? := fun j => cell_of_row W g _ _ _ (0, 0) hg
  have hs : tProfile.size = 2 := rfl
  match i, hx with
  | 0, hx =>
    simp only [List.getElem?_cons_zero, Option.some.injEq] at hx
    subst hx
    refine ⟨_, hp, fun j u hu => ?_⟩
    rw [hc, hs]
    match j, hu with
    | 0, hu => simpa using hu
    | 1, hu => simpa using hu
    | j + 2, hu => simp at hu
  | 1, hx =>
    simp only [List.getElem?_cons_succ, List.getElem?_cons_zero, Option.some.injEq] at hx
    subst hx
    refine ⟨_, hq, fun j u hu => ?_⟩
    rw [hc, hs]
    match j, hu with
    | 0, hu => simpa using hu
    | 1, hu => simpa using hu
    | j + 2, hu => simp at hu
  | 2, hx =>
    simp only [List.getElem?_cons_succ, List.getElem?_cons_zero, Option.some.injEq] at hx
    subst hx
    refine ⟨_, hr, fun j u hu => ?_⟩
    rw [hc, hs]
    match j, hu with
    | 0, hu => simpa using hu
    | 1, hu => simpa using hu
    | j + 2, hu => simp at hu
  | i + 3, hx => simp at hx
end Go.Proofs.YtdlkoffandhclaaDoor
namespace Go.Proofs.YtdlkoffandhclaaDoor.fnCounted
open Go.ChangeShapes Go.WideShapes Go.ChangeAt Go.RowKit
open Go.ChangeMaps (open_string shut_string)
theorem own : ownKnob Tryd.prog.godebug = none := by kernel_rfl
theorem laidOut : laidOutB Tryd.prog = true := by kernel_rfl
set_option maxRecDepth 100000 in
set_option maxHeartbeats 8000000 in
theorem walk (w : World) (v : Value) (xs : List UInt8) (hx : (byteT.sl 5).R w w.heap.size [v] xs) :
    Calls Tryd.prog 3 #[v] w fun e w' => e = .returned (.bool true) ∧ Gro w w' := by
  obtain ⟨A, c, rfl, hxl, hcm⟩ := sl_at hx
  by_cases hb : xs.length ≤ 1048576
  case neg =>
    have hb2 := Lib.hid (show decide (1048576 < (xs.length : Int)) = true from decide_eq_true (by omega))
    go_enter Tryd.func3, Tryd.ntmps3
    go_wp2_with (go_at_call 4; refine (big_l _ _ _ _).mono ?_; rw [hb2.out]; rintro e w1 ⟨rfl, os1, d1, rfl⟩)
    go_ret
    exact ⟨rfl, (by repeat (first | with_reducible exact Gro.refl _ | with_reducible exact Gro.refl_drew _ _ _ | with_reducible exact Gro.refl_drewN _ _ _ _ | assumption | with_reducible apply Gro.more | with_reducible apply Gro.alloc | with_reducible apply Gro.drew | with_reducible apply Gro.drewN))⟩
  have hb2 := Lib.hid (show decide (1048576 < (xs.length : Int)) = false from decide_eq_false (by omega))
  have hl40 : xs.length ≤ 1099511627776 := by omega
  go_enter Tryd.func3, Tryd.ntmps3
  go_wp2_with (go_at_call 4; refine (big_l _ _ _ _).mono ?_; rw [hb2.out]; rintro e w1 ⟨rfl, os1, d1, rfl⟩)
  refine (stacks_s (Ty.up _ hx (by repeat (first | with_reducible exact Gro.refl _ | with_reducible exact Gro.refl_drew _ _ _ | with_reducible exact Gro.refl_drewN _ _ _ _ | assumption | with_reducible apply Gro.more | with_reducible apply Gro.alloc | with_reducible apply Gro.drew | with_reducible apply Gro.drewN))) (by omega)).mono ?_
  rintro e W2 ⟨Al, cl, l, rfl, hst, hll, hG2, hFl⟩
  have hGw : Gro w W2 := (Gro.more (Gro.refl w) os1 d1).trans hG2
  have hRl := hFl.read
  clear hG2 hFl
  obtain ⟨cs, hcs⟩ : ∃ cs, prs xs l = cs := ⟨_, rfl⟩
  have hlen : cs.length ≤ 7 := by rw [← hcs, prs_len]; exact hll
  have HLE := Lib.hid (show cs.length = l.length from by rw [← hcs, prs_len])
  have HOK := Lib.hid (show cOk cs from by rw [← hcs]; exact prs_ok hst)
  have HGET := Lib.hid (show ∀ (k : Nat) (s : List DFrame), l[k]? = some s → cs[k]? = some (s, ((byteAt xs k % 9 : Nat) : Int)) from fun k s h => by rw [← hcs]; exact prs_get h)
  have HST := Lib.hid hst
  clear hst hcs
  go_wp2_with (fail)
  obtain ⟨g, hg⟩ : ∃ g, W2.heap.size = g := ⟨_, rfl⟩
  have hG0 : Gro W2 ((W2.alloc (.cells #[.slice none 0 0, .slice none 0 0] 31)).alloc (.cells #[.slice none 0 0, .slice none 0 0] 31)) := (by repeat (first | with_reducible exact Gro.refl _ | with_reducible exact Gro.refl_drew _ _ _ | with_reducible exact Gro.refl_drewN _ _ _ _ | assumption | with_reducible apply Gro.more | with_reducible apply Gro.alloc | with_reducible apply Gro.drew | with_reducible apply Gro.drewN))
  have e0 : ((W2.alloc (.cells #[.slice none 0 0, .slice none 0 0] 31)).alloc (.cells #[.slice none 0 0, .slice none 0 0] 31)).heap[g]? = some (.cells #[.slice none 0 0, .slice none 0 0] 31 (0, 0)) := by
    subst hg
    exact grow_blk (heap_alloc_new W2 _) (by (repeat (first | with_reducible exact Gro.refl _ | with_reducible exact Gro.refl_drew _ _ _ | with_reducible exact Gro.refl_drewN _ _ _ _ | assumption | with_reducible apply Gro.more | with_reducible apply Gro.alloc | with_reducible apply Gro.drew | with_reducible apply Gro.drewN)); done)
  have e1 : ((W2.alloc (.cells #[.slice none 0 0, .slice none 0 0] 31)).alloc (.cells #[.slice none 0 0, .slice none 0 0] 31)).heap[g + 1]? = some (.cells #[.slice none 0 0, .slice none 0 0] 31 (0, 0)) := by
    subst hg
    have h1 := heap_alloc_new (W2.alloc (.cells #[.slice none 0 0, .slice none 0 0] 31)) (.cells #[.slice none 0 0, .slice none 0 0] 31)
    simpa using h1
  have hwg : w.heap.size ≤ g := by have := hGw.size; omega
  rw [hg]
  generalize ((W2.alloc (.cells #[.slice none 0 0, .slice none 0 0] 31)).alloc (.cells #[.slice none 0 0, .slice none 0 0] 31)) = Y at hG0 e0 e1 ⊢
  have hgY : g + 1 < Y.heap.size := (Array.getElem?_eq_some_iff.1 e1).1
  have hz0 : FrN tProfile (g + 2) Y.heap.size Y [.slice none 0 0, .slice none 0 0] emptyP := by
    obtain ⟨S, h1, h2, h3⟩ := fresh_emptyP Y Y
    exact ⟨S, h1, h2, fun b hb => by have := h3 b hb; have := tProfile.ltO h1 b hb; omega⟩
  go_loopw [6, 7] (fun a b wr => ∃ (k : Nat) (s : Int) (p : DProfile) (A0 : Option Addr) (c0 : Nat) (A1 : Option Addr) (c1 : Nat), a = .int .i64 s ∧ b = .int .i64 k ∧ k ≤ l.length ∧ Hid (s = sumTo cs k) ∧ 0 ≤ s ∧ s ≤ 8 * k ∧ Hid (p = addAll (cs.take k) emptyP) ∧ Gro W2 wr ∧ Hid (wr.heap[g]? = some (.cells #[.slice A0 p.Stacks.Nodes.length c0, .slice A1 p.Counts.length c1] 31 (0, 0))) ∧ Hid (wr.heap[g + 1]? = some (.cells #[.slice none 0 0, .slice none 0 0] 31 (0, 0))) ∧ FrN tProfile (g + 2) wr.heap.size wr [.slice A0 p.Stacks.Nodes.length c0, .slice A1 p.Counts.length c1] p) (fun _ b _ => l.length - (intOf b).toNat)
  case atStart => exact ⟨0, 0, emptyP, none, 0, none, 0, rfl, rfl, by omega, Lib.hid (by simp [sumTo]), by omega, by omega, Lib.hid (by simp [addAll]), hG0, Lib.hid e0, Lib.hid e1, hz0⟩
  case round =>
    obtain ⟨k, sm, p, A0, c0, A1, c1, rfl, rfl, hk, hsm, hs0, hs1, hp, hG, hbx, hby, hF⟩ := hrel
    have hcl : (cs.take k).length ≤ 7 := by rw [List.length_take]; omega
    have hcp := cp_of (HOK.out.take k) hcl
    rw [← hp.out] at hcp
    obtain ⟨hpo, hpt, hpt0, hpt1, hpn, hpc, hpm⟩ := hcp
    have hgl : g < wr.heap.size := (Array.getElem?_eq_some_iff.1 hbx.out).1
    have hgl2 : g + 1 < wr.heap.size := (Array.getElem?_eq_some_iff.1 hby.out).1
    have hRw := Ty.up _ hRl hG
    obtain ⟨y0, y1, yf0, yf1, _⟩ := box2 hbx.out
    by_cases hlt : k < l.length
    · obtain ⟨gl, offl, s, As, cz, hAe, hglb, hs, hRs, hcs⟩ := lists_at hRw (k := k) hlt
      have hsk := HST.out s (List.mem_of_getElem? hs)
      obtain ⟨hsk1, hsl⟩ := hsk
      have hck := HGET.out k s hs
      obtain ⟨bk, hbk⟩ : ∃ bk, byteAt xs k = bk := ⟨_, rfl⟩
      have hbb := byteAt_lt xs k
      rw [hbk] at hbb hck
      have HBK := Lib.hid hbk
      have h9 : Int.tmod ((bk : Nat) : Int) 9 = ((bk % 9 : Nat) : Int) := by rw [Int.tmod_eq_emod_of_nonneg (by omega)]; omega
      obtain ⟨n9, hn9⟩ : ∃ n9, bk % 9 = n9 := ⟨_, rfl⟩
      have hn9b : n9 ≤ 8 := by omega
      rw [hn9] at h9 hck
      obtain ⟨q, hq⟩ : ∃ q, addStack p s (n9 : Int) = (q, true) := addStack_yes hpo (by omega) hsk1.1 hsk1.2 (by rw [List.length_take] at hpt1; omega)
      have HQ := Lib.hid hq
      have HQE := Lib.hid (show q = addAll (cs.take (k + 1)) emptyP from by rw [take_snoc hck, addAll_snoc, ← hp.out]; simp only; rw [hq])
      have HSM := Lib.hid (show sm + (n9 : Int) = sumTo cs (k + 1) from by rw [sumTo_step hck, ← hsm.out])
      have hw1 : IntKind.i64.wrap (sm + (n9 : Int)) = sm + (n9 : Int) := IntWalk.i64_in _ ⟨by omega, by omega⟩
      have hki : (k : Int) < (l.length : Int) := by omega
      subst hAe
      have hglw : gl < wr.heap.size := hglb
      clear hq hck hs hbk hn9 hpt hpm hsk1
      go_wp2_with (go_at_call 6; (with_reducible refine (at_z (z := (k : Int)) (b := bk) (Ty.up _ hx (hGw.trans hG)) k rfl HBK.out (by omega) hl40).mono ?_); rintro e w3 ⟨rfl, os3, d3, rfl⟩)
      go_region_law (first
        | (go_simp; go_at_call 7; (with_reducible refine (addStack_i (p := p) (l := s) (n := (n9 : Int)) (Ty.up _ (rdProf hF.read).1 (by repeat (first | with_reducible exact Gro.refl _ | with_reducible exact Gro.refl_drew _ _ _ | with_reducible exact Gro.refl_drewN _ _ _ _ | assumption | with_reducible apply Gro.more | with_reducible apply Gro.alloc | with_reducible apply Gro.drew | with_reducible apply Gro.drewN))) (Ty.up _ (rdProf hF.read).2 (by repeat (first | with_reducible exact Gro.refl _ | with_reducible exact Gro.refl_drew _ _ _ | with_reducible exact Gro.refl_drewN _ _ _ _ | assumption | with_reducible apply Gro.more | with_reducible apply Gro.alloc | with_reducible apply Gro.drew | with_reducible apply Gro.drewN))) (Ty.up _ hRs (by repeat (first | with_reducible exact Gro.refl _ | with_reducible exact Gro.refl_drew _ _ _ | with_reducible exact Gro.refl_drewN _ _ _ _ | assumption | with_reducible apply Gro.more | with_reducible apply Gro.alloc | with_reducible apply Gro.drew | with_reducible apply Gro.drewN))) (by omega) (by omega) (by omega)).mono ?_); rw [HQ.out]; rintro e W6 ⟨A6, c6, A7, c7, rfl, hF6, os6, d6, rfl⟩))
      all_goals go_wp2_with (fail)
      all_goals go_roundw
      all_goals try (case measure => simp [intOf]; omega)
      all_goals
        have h2 := set2 hbx.out (.slice A6 q.Stacks.Nodes.length c6) (.slice A7 q.Counts.length c7)
        have hz2 := h2.2.size
        refine ⟨k + 1, sm + (n9 : Int), q, A6, c6, A7, c7, by go_num, by go_num, by omega, HSM, by omega, by omega, HQE, (h2.2.gro hG (fun b hb => by simp at hb; omega)).trans (by (repeat (first | with_reducible exact Gro.refl _ | with_reducible exact Gro.refl_drew _ _ _ | with_reducible exact Gro.refl_drewN _ _ _ _ | assumption | with_reducible apply Gro.more | with_reducible apply Gro.alloc | with_reducible apply Gro.drew | with_reducible apply Gro.drewN)); done), Lib.hid ?_, Lib.hid ?_, ?_⟩
        · exact grow_blk h2.1 (by (repeat (first | with_reducible exact Gro.refl _ | with_reducible exact Gro.refl_drew _ _ _ | with_reducible exact Gro.refl_drewN _ _ _ _ | assumption | with_reducible apply Gro.more | with_reducible apply Gro.alloc | with_reducible apply Gro.drew | with_reducible apply Gro.drewN)); done)
        · exact grow_blk ((h2.2.block (g + 1) hgl2 (by simp)).trans hby.out) (by (repeat (first | with_reducible exact Gro.refl _ | with_reducible exact Gro.refl_drew _ _ _ | with_reducible exact Gro.refl_drewN _ _ _ _ | assumption | with_reducible apply Gro.more | with_reducible apply Gro.alloc | with_reducible apply Gro.drew | with_reducible apply Gro.drewN)); done)
        · exact (hF6.frN.same (by repeat (first | with_reducible exact Same.refl _ _ _ | ((with_reducible refine same_hi ?_ ?_) <;> (simp <;> omega)) | ((with_reducible refine same_gro ?_ ?_); rotate_left; (simp <;> omega)) | ((with_reducible refine same_alloc ?_ ?_); rotate_left; (simp <;> omega)) | ((with_reducible refine same_alloc_lo ?_ ?_ ?_); rotate_left; (simp <;> omega); (simp <;> omega)) | with_reducible apply same_drew_l | ((with_reducible refine Same.more ?_ ?_ _ _); rotate_left; simp <;> omega) | ((with_reducible refine Same.alloc ?_ ?_ _); rotate_left; simp <;> omega) | with_reducible apply Same.drew | with_reducible apply Same.drewN))).wide (by first | omega | (simp; omega)) (by simp)
    · obtain rfl : k = l.length := by omega
      have hple : (cs.take l.length) = cs := by rw [← HLE.out, List.take_length]
      rw [hple] at hp
      have HSMF := Lib.hid (show totalOf p = sm from by rw [hpt, hsm.out, sumTo, hple])
      have HPM := Lib.hid hpm
      have HPO := Lib.hid hpo
      clear hpt hpm hple hsm hpo
      have hwl : IntKind.i64.wrap ((l.length : Int) - 1) = (l.length : Int) - 1 := IntWalk.i64_in _ ⟨by omega, by omega⟩
      go_wp2_with (fail)
      go_loopw [9] (fun a wr => ∃ (z : Int) (j : Nat) (q : DProfile) (A2 : Option Addr) (c2 : Nat) (A3 : Option Addr) (c3 : Nat), a = .int .i64 z ∧ z = (j : Int) - 1 ∧ j ≤ l.length ∧ Hid (q = addAll (cs.drop j).reverse emptyP) ∧ Gro W2 wr ∧ Hid (wr.heap[g]? = some (.cells #[.slice A0 p.Stacks.Nodes.length c0, .slice A1 p.Counts.length c1] 31 (0, 0))) ∧ Hid (wr.heap[g + 1]? = some (.cells #[.slice A2 q.Stacks.Nodes.length c2, .slice A3 q.Counts.length c3] 31 (0, 0))) ∧ FrN tProfile (g + 2) wr.heap.size wr [.slice A0 p.Stacks.Nodes.length c0, .slice A1 p.Counts.length c1] p ∧ FrN tProfile (g + 2) wr.heap.size wr [.slice A2 q.Stacks.Nodes.length c2, .slice A3 q.Counts.length c3] q) (fun a _ => (intOf a + 1).toNat)
      case atStart => exact ⟨(l.length : Int) - 1, l.length, emptyP, none, 0, none, 0, rfl, rfl, by omega, Lib.hid (by rw [← HLE.out, List.drop_length]; simp [addAll]), hG, hbx, hby, hF, by
        obtain ⟨S, h1, h2, h3⟩ := fresh_emptyP wr wr
        exact ⟨S, h1, h2, fun b hb => by have := h3 b hb; have := tProfile.ltO h1 b hb; omega⟩⟩
      case round =>
        clear hG hbx hby hF hgl hgl2 hRw y0 y1 yf0 yf1
        obtain ⟨z, j, q, A2, c2, A3, c3, rfl, hz, hj, hq, hG, hbx, hby, hF, hFq⟩ := hrel
        have hcl2 : (cs.drop j).reverse.length ≤ 7 := by rw [List.length_reverse, List.length_drop]; omega
        have hcp := cp_of (HOK.out.back j) hcl2
        rw [← hq.out] at hcp
        obtain ⟨hqo, hqt, hqt0, hqt1, hqn, hqc, hqm⟩ := hcp
        have hgl : g < wr.heap.size := (Array.getElem?_eq_some_iff.1 hbx.out).1
        have hgl2 : g + 1 < wr.heap.size := (Array.getElem?_eq_some_iff.1 hby.out).1
        have hRw := Ty.up _ hRl hG
        obtain ⟨y0, y1, yf0, yf1, _⟩ := box2 hby.out
        by_cases hlt : 0 < j
        · obtain ⟨i, hji⟩ : ∃ i, j = i + 1 := ⟨j - 1, by omega⟩
          obtain rfl : z = (i : Int) := by omega
          subst hji
          obtain ⟨gl, offl, s, As, cz, hAe, hglb, hs, hRs, hcs⟩ := lists_at hRw (k := i) (by omega)
          have hsk := HST.out s (List.mem_of_getElem? hs)
          obtain ⟨hsk1, hsl⟩ := hsk
          have hck := HGET.out i s hs
          obtain ⟨bk, hbk⟩ : ∃ bk, byteAt xs i = bk := ⟨_, rfl⟩
          have hbb := byteAt_lt xs i
          rw [hbk] at hbb hck
          have HBK := Lib.hid hbk
          have h9 : Int.tmod ((bk : Nat) : Int) 9 = ((bk % 9 : Nat) : Int) := by rw [Int.tmod_eq_emod_of_nonneg (by omega)]; omega
          obtain ⟨n9, hn9⟩ : ∃ n9, bk % 9 = n9 := ⟨_, rfl⟩
          have hn9b : n9 ≤ 8 := by omega
          rw [hn9] at h9 hck
          obtain ⟨r, hr⟩ : ∃ r, addStack q s (n9 : Int) = (r, true) := addStack_yes hqo (by omega) hsk1.1 hsk1.2 (by rw [List.length_reverse, List.length_drop] at hqt1; omega)
          have HR := Lib.hid hr
          have HRE := Lib.hid (show r = addAll (cs.drop i).reverse emptyP from by rw [back_snoc hck, addAll_snoc, ← hq.out]; simp only; rw [hr])
          have hki : (i : Int) < (l.length : Int) := by omega
          have hki0 : (0 : Int) ≤ (i : Int) := by omega
          have hw1 : IntKind.i64.wrap ((i : Int) - 1) = (i : Int) - 1 := IntWalk.i64_in _ ⟨by omega, by omega⟩
          subst hAe
          have hglw : gl < wr.heap.size := hglb
          clear hr hck hs hbk hn9 hqt hqm hsk1 hz
          go_wp2_with (fail)
          go_region_law (first
            | (go_simp; go_at_call 6; (with_reducible refine (at_z (z := (i : Int)) (b := bk) (Ty.up _ (Ty.up _ hx (hGw.trans hG)) (by repeat (first | with_reducible exact Gro.refl _ | with_reducible exact Gro.refl_drew _ _ _ | with_reducible exact Gro.refl_drewN _ _ _ _ | assumption | with_reducible apply Gro.more | with_reducible apply Gro.alloc | with_reducible apply Gro.drew | with_reducible apply Gro.drewN))) i rfl HBK.out (by omega) hl40).mono ?_); rintro e w3 ⟨rfl, os3, d3, rfl⟩)
            | (go_simp; go_at_call 7; (with_reducible refine (addStack_i (p := q) (l := s) (n := (n9 : Int)) (Ty.up _ (rdProf hFq.read).1 (by repeat (first | with_reducible exact Gro.refl _ | with_reducible exact Gro.refl_drew _ _ _ | with_reducible exact Gro.refl_drewN _ _ _ _ | assumption | with_reducible apply Gro.more | with_reducible apply Gro.alloc | with_reducible apply Gro.drew | with_reducible apply Gro.drewN))) (Ty.up _ (rdProf hFq.read).2 (by repeat (first | with_reducible exact Gro.refl _ | with_reducible exact Gro.refl_drew _ _ _ | with_reducible exact Gro.refl_drewN _ _ _ _ | assumption | with_reducible apply Gro.more | with_reducible apply Gro.alloc | with_reducible apply Gro.drew | with_reducible apply Gro.drewN))) (Ty.up _ hRs (by repeat (first | with_reducible exact Gro.refl _ | with_reducible exact Gro.refl_drew _ _ _ | with_reducible exact Gro.refl_drewN _ _ _ _ | assumption | with_reducible apply Gro.more | with_reducible apply Gro.alloc | with_reducible apply Gro.drew | with_reducible apply Gro.drewN))) (by omega) (by omega) (by omega)).mono ?_); rw [HR.out]; rintro e W6 ⟨A6, c6, A7, c7, rfl, hF6, os6, d6, rfl⟩))
          all_goals go_wp2_with (fail)
          all_goals go_roundw
          all_goals try (case measure => (simp [intOf]; try omega))
          all_goals
            have h2 := set2 hby.out (.slice A6 r.Stacks.Nodes.length c6) (.slice A7 r.Counts.length c7)
            have hz2 := h2.2.size
            refine ⟨(i : Int) - 1, i, r, A6, c6, A7, c7, by go_num, rfl, by omega, HRE, (h2.2.gro hG (fun b hb => by simp at hb; omega)).trans (by (repeat (first | with_reducible exact Gro.refl _ | with_reducible exact Gro.refl_drew _ _ _ | with_reducible exact Gro.refl_drewN _ _ _ _ | assumption | with_reducible apply Gro.more | with_reducible apply Gro.alloc | with_reducible apply Gro.drew | with_reducible apply Gro.drewN)); done), Lib.hid ?_, Lib.hid ?_, ?_, ?_⟩
            · exact grow_blk ((h2.2.block g hgl (by simp)).trans hbx.out) (by (repeat (first | with_reducible exact Gro.refl _ | with_reducible exact Gro.refl_drew _ _ _ | with_reducible exact Gro.refl_drewN _ _ _ _ | assumption | with_reducible apply Gro.more | with_reducible apply Gro.alloc | with_reducible apply Gro.drew | with_reducible apply Gro.drewN)); done)
            · exact grow_blk h2.1 (by (repeat (first | with_reducible exact Gro.refl _ | with_reducible exact Gro.refl_drew _ _ _ | with_reducible exact Gro.refl_drewN _ _ _ _ | assumption | with_reducible apply Gro.more | with_reducible apply Gro.alloc | with_reducible apply Gro.drew | with_reducible apply Gro.drewN)); done)
            · exact ((hF.only h2.2 (by omega)).gro (by (repeat (first | with_reducible exact Gro.refl _ | with_reducible exact Gro.refl_drew _ _ _ | with_reducible exact Gro.refl_drewN _ _ _ _ | assumption | with_reducible apply Gro.more | with_reducible apply Gro.alloc | with_reducible apply Gro.drew | with_reducible apply Gro.drewN)); done)).wide (Nat.le_refl _) (by first | omega | (simp; omega))
            · exact (hF6.frN.same (by repeat (first | with_reducible exact Same.refl _ _ _ | ((with_reducible refine same_hi ?_ ?_) <;> (simp <;> omega)) | ((with_reducible refine same_gro ?_ ?_); rotate_left; (simp <;> omega)) | ((with_reducible refine same_alloc ?_ ?_); rotate_left; (simp <;> omega)) | ((with_reducible refine same_alloc_lo ?_ ?_ ?_); rotate_left; (simp <;> omega); (simp <;> omega)) | with_reducible apply same_drew_l | ((with_reducible refine Same.more ?_ ?_ _ _); rotate_left; simp <;> omega) | ((with_reducible refine Same.alloc ?_ ?_ _); rotate_left; simp <;> omega) | with_reducible apply Same.drew | with_reducible apply Same.drewN))).wide (by first | omega | (simp; omega)) (by simp)
        · obtain rfl : j = 0 := by omega
          obtain rfl : z = -1 := by omega
          rw [List.drop_zero] at hq
          have HSAME := Lib.hid (show sameP p q = true from by rw [hp.out, hq.out]; exact counted_same HOK.out hlen)
          clear hz hqt hqm
          obtain ⟨x0, x1, _, _, _⟩ := box2 hbx.out
          have hFr := hF.read
          have hFqr := hFq.read
          have hGW : Gro w wr := hGw.trans hG
          generalize hV : wr = V at hGW hFr hFqr hRw hgl hgl2 x0 x1 y0 y1 ⊢
          clear hV hF hFq hG hbx hby
          go_wp2_with (fail)
          go_loopw [10] (fun a wr => ∃ (k : Nat), a = .int .i64 k ∧ k ≤ l.length ∧ Hid (Gro V wr)) (fun a _ => l.length - (intOf a).toNat)
          case atStart => exact ⟨0, rfl, by omega, Lib.hid (Gro.refl _)⟩
          case round =>
            obtain ⟨k, rfl, hk, hG⟩ := hrel
            obtain ⟨os, d, rfl⟩ := hG.out
            clear hG
            by_cases hlt : k < l.length
            · obtain ⟨gl, offl, s, As, cz, hAe, hglb, hs, hRs, hcs⟩ := lists_at hRw (k := k) hlt
              have HS := Lib.hid hs
              have hki : (k : Int) < (l.length : Int) := by omega
              subst hAe
              clear hs
              go_wp2_with (fail)
              go_loopw [11, 12] (fun a b wr => ∃ (i : Nat) (t : Int), a = .int .i64 t ∧ b = .int .i64 i ∧ i ≤ l.length ∧ Hid (t = wantTo cs s i) ∧ 0 ≤ t ∧ t ≤ 8 * i ∧ Hid (Gro V wr)) (fun _ b _ => l.length - (intOf b).toNat)
              case atStart => exact ⟨0, 0, rfl, rfl, by omega, Lib.hid (by simp [wantTo]), by omega, by omega, Lib.hid (by repeat (first | with_reducible exact Gro.refl _ | with_reducible exact Gro.refl_drew _ _ _ | with_reducible exact Gro.refl_drewN _ _ _ _ | assumption | with_reducible apply Gro.more | with_reducible apply Gro.alloc | with_reducible apply Gro.drew | with_reducible apply Gro.drewN))⟩
              case round =>
                obtain ⟨i, t, rfl, rfl, hi, ht, ht0, ht1, hG⟩ := hrel
                obtain ⟨os, d, rfl⟩ := hG.out
                clear hG
                by_cases hit : i < l.length
                · obtain ⟨gl', offl', s2, As2, cz2, hAe2, hglb2, hs2, hRs2, hcs2⟩ := lists_at hRw (k := i) hit
                  injection hAe2 with hAe2
                  injection hAe2 with e1 e2
                  subst e1 e2
                  have hck := HGET.out i s2 hs2
                  have hst := want_step (m := s) hck
                  have z1 := gro_keeps hcs os d
                  have z2 := gro_keeps hcs2 os d
                  obtain ⟨bk, hbk⟩ : ∃ bk, byteAt xs i = bk := ⟨_, rfl⟩
                  have hbb := byteAt_lt xs i
                  rw [hbk] at hbb hst
                  have HBK := Lib.hid hbk
                  have h9 : Int.tmod ((bk : Nat) : Int) 9 = ((bk % 9 : Nat) : Int) := by rw [Int.tmod_eq_emod_of_nonneg (by omega)]; omega
                  obtain ⟨n9, hn9⟩ : ∃ n9, bk % 9 = n9 := ⟨_, rfl⟩
                  have hn9b : n9 ≤ 8 := by omega
                  rw [hn9] at h9 hst
                  simp only at hst
                  have hii : (i : Int) < (l.length : Int) := by omega
                  have hw1 : IntKind.i64.wrap (t + (n9 : Int)) = t + (n9 : Int) := IntWalk.i64_in _ ⟨by omega, by omega⟩
                  by_cases he : s2 = s
                  · have hde : decide (s2 = s) = true := decide_eq_true he
                    have HT := Lib.hid (show t + (n9 : Int) = wantTo cs s (i + 1) from by rw [hst, if_pos he.symm, ← ht.out])
                    have HDE := Lib.hid hde
                    clear hck hst hs2 hn9 hbk he hde
                    go_wp2_with (fail)
                    first | (go_region_held3 (fun w' => w'.cell? ⟨gl, offl + k, none⟩ = some (.slice As s.length cz) ∧ w'.cell? ⟨gl, offl + i, none⟩ = some (.slice As2 s2.length cz2)) ((repeat' apply And.intro) <;> (first | ((repeat (first | assumption | with_reducible refine gro_keeps ?_ _ _ | with_reducible refine alloc_keeps ?_ _ | with_reducible refine drew_keeps ?_)); done) | (simp [go_sem]; done))) (first
                      | (go_at_call 8; (with_reducible refine (sameFrames_l (xs := s2) (ys := s) (Ty.up _ hRs2 (by (repeat (first | with_reducible exact Gro.refl _ | with_reducible exact Gro.refl_drew _ _ _ | with_reducible exact Gro.refl_drewN _ _ _ _ | assumption | with_reducible apply Gro.more | with_reducible apply Gro.alloc | with_reducible apply Gro.drew | with_reducible apply Gro.drewN)); done)) (Ty.up _ hRs (by (repeat (first | with_reducible exact Gro.refl _ | with_reducible exact Gro.refl_drew _ _ _ | with_reducible exact Gro.refl_drewN _ _ _ _ | assumption | with_reducible apply Gro.more | with_reducible apply Gro.alloc | with_reducible apply Gro.drew | with_reducible apply Gro.drewN)); done))).mono ?_); rw [HDE.out]; rintro e w6 ⟨rfl, os6, d6, rfl⟩)
                      | fail)) | fail
                    go_wp2_with (go_at_call 6; (with_reducible refine (at_z (z := (i : Int)) (b := bk) (Ty.up _ (Ty.up _ hx hGW) (by repeat (first | with_reducible exact Gro.refl _ | with_reducible exact Gro.refl_drew _ _ _ | with_reducible exact Gro.refl_drewN _ _ _ _ | assumption | with_reducible apply Gro.more | with_reducible apply Gro.alloc | with_reducible apply Gro.drew | with_reducible apply Gro.drewN))) i rfl HBK.out (by omega) hl40).mono ?_); rintro e w3 ⟨rfl, os3, d3, rfl⟩)
                    go_roundw
                    case rel => exact ⟨i + 1, t + (n9 : Int), by go_num, by go_num, by omega, HT, by omega, by omega, Lib.hid (by repeat (first | with_reducible exact Gro.refl _ | with_reducible exact Gro.refl_drew _ _ _ | with_reducible exact Gro.refl_drewN _ _ _ _ | assumption | with_reducible apply Gro.more | with_reducible apply Gro.alloc | with_reducible apply Gro.drew | with_reducible apply Gro.drewN))⟩
                    case measure => simp [intOf]; omega
                  · have hde : decide (s2 = s) = false := decide_eq_false he
                    have HT := Lib.hid (show t = wantTo cs s (i + 1) from by rw [hst, if_neg (fun h => he h.symm), ← ht.out, Int.add_zero])
                    have HDE := Lib.hid hde
                    clear hck hst hs2 hn9 hbk he hde
                    go_wp2_with (fail)
                    first | (go_region_held3 (fun w' => w'.cell? ⟨gl, offl + k, none⟩ = some (.slice As s.length cz) ∧ w'.cell? ⟨gl, offl + i, none⟩ = some (.slice As2 s2.length cz2)) ((repeat' apply And.intro) <;> (first | ((repeat (first | assumption | with_reducible refine gro_keeps ?_ _ _ | with_reducible refine alloc_keeps ?_ _ | with_reducible refine drew_keeps ?_)); done) | (simp [go_sem]; done))) (first
                      | (go_at_call 8; (with_reducible refine (sameFrames_l (xs := s2) (ys := s) (Ty.up _ hRs2 (by (repeat (first | with_reducible exact Gro.refl _ | with_reducible exact Gro.refl_drew _ _ _ | with_reducible exact Gro.refl_drewN _ _ _ _ | assumption | with_reducible apply Gro.more | with_reducible apply Gro.alloc | with_reducible apply Gro.drew | with_reducible apply Gro.drewN)); done)) (Ty.up _ hRs (by (repeat (first | with_reducible exact Gro.refl _ | with_reducible exact Gro.refl_drew _ _ _ | with_reducible exact Gro.refl_drewN _ _ _ _ | assumption | with_reducible apply Gro.more | with_reducible apply Gro.alloc | with_reducible apply Gro.drew | with_reducible apply Gro.drewN)); done))).mono ?_); rw [HDE.out]; rintro e w6 ⟨rfl, os6, d6, rfl⟩)
                      | fail)) | fail
                    go_wp2_with (fail)
                    go_roundw
                    case rel => exact ⟨i + 1, t, by go_num, by go_num, by omega, HT, by omega, by omega, Lib.hid (by repeat (first | with_reducible exact Gro.refl _ | with_reducible exact Gro.refl_drew _ _ _ | with_reducible exact Gro.refl_drewN _ _ _ _ | assumption | with_reducible apply Gro.more | with_reducible apply Gro.alloc | with_reducible apply Gro.drew | with_reducible apply Gro.drewN))⟩
                    case measure => simp [intOf]; omega
                · obtain rfl : i = l.length := by omega
                  have z1 := gro_keeps hcs os d
                  have z3 := gro_keeps x0 os d
                  have z4 := gro_keeps x1 os d
                  have HC := Lib.hid (show countOf p s = t from by rw [HPM.out s, ht.out, wantTo, ← HLE.out, List.take_length])
                  have htt : (t != t) = false := by simp
                  go_wp2_with (fail)
                  first | (go_region_held3 (fun w' => w'.cell? ⟨g, 0, none⟩ = some (.slice A0 p.Stacks.Nodes.length c0) ∧ w'.cell? ⟨g, 1, none⟩ = some (.slice A1 p.Counts.length c1) ∧ w'.cell? ⟨gl, offl + k, none⟩ = some (.slice As s.length cz)) ((repeat' apply And.intro) <;> (first | ((repeat (first | assumption | with_reducible refine gro_keeps ?_ _ _ | with_reducible refine alloc_keeps ?_ _ | with_reducible refine drew_keeps ?_)); done) | (simp [go_sem]; done))) (first
                    | (go_at_call 9; (with_reducible refine (countOf_i (p := p) (l := s) (Ty.up _ (rdProf hFr).1 (by (repeat (first | with_reducible exact Gro.refl _ | with_reducible exact Gro.refl_drew _ _ _ | with_reducible exact Gro.refl_drewN _ _ _ _ | assumption | with_reducible apply Gro.more | with_reducible apply Gro.alloc | with_reducible apply Gro.drew | with_reducible apply Gro.drewN)); done)) (Ty.up _ (rdProf hFr).2 (by (repeat (first | with_reducible exact Gro.refl _ | with_reducible exact Gro.refl_drew _ _ _ | with_reducible exact Gro.refl_drewN _ _ _ _ | assumption | with_reducible apply Gro.more | with_reducible apply Gro.alloc | with_reducible apply Gro.drew | with_reducible apply Gro.drewN)); done)) (Ty.up _ hRs (by (repeat (first | with_reducible exact Gro.refl _ | with_reducible exact Gro.refl_drew _ _ _ | with_reducible exact Gro.refl_drewN _ _ _ _ | assumption | with_reducible apply Gro.more | with_reducible apply Gro.alloc | with_reducible apply Gro.drew | with_reducible apply Gro.drewN)); done)) (by omega)).mono ?_); rw [HC.out]; rintro e w6 ⟨rfl, os6, d6, rfl⟩)
                    | fail)) | fail
                  go_wp2_with (fail)
                  go_roundw
                  case rel => exact ⟨k + 1, by go_num, by omega, Lib.hid (by repeat (first | with_reducible exact Gro.refl _ | with_reducible exact Gro.refl_drew _ _ _ | with_reducible exact Gro.refl_drewN _ _ _ _ | assumption | with_reducible apply Gro.more | with_reducible apply Gro.alloc | with_reducible apply Gro.drew | with_reducible apply Gro.drewN))⟩
                  case measure => simp [intOf]; omega
            · obtain rfl : k = l.length := by omega
              have z3 := gro_keeps x0 os d
              have z4 := gro_keeps x1 os d
              have z5 := gro_keeps y0 os d
              have z6 := gro_keeps y1 os d
              go_wp2_with (first
                | (go_at_call 10; (with_reducible refine (totalOf_i (p := p) (Ty.up _ (rdProf hFr).1 (by repeat (first | with_reducible exact Gro.refl _ | with_reducible exact Gro.refl_drew _ _ _ | with_reducible exact Gro.refl_drewN _ _ _ _ | assumption | with_reducible apply Gro.more | with_reducible apply Gro.alloc | with_reducible apply Gro.drew | with_reducible apply Gro.drewN))) (Ty.up _ (rdProf hFr).2 (by repeat (first | with_reducible exact Gro.refl _ | with_reducible exact Gro.refl_drew _ _ _ | with_reducible exact Gro.refl_drewN _ _ _ _ | assumption | with_reducible apply Gro.more | with_reducible apply Gro.alloc | with_reducible apply Gro.drew | with_reducible apply Gro.drewN)))).mono ?_); rw [HSMF.out]; rintro e w5 ⟨rfl, os5, d5, rfl⟩)
                | (go_at_call 11; (with_reducible refine (samep_i (p := p) (q := q) (Ty.up _ (rdProf hFr).1 (by repeat (first | with_reducible exact Gro.refl _ | with_reducible exact Gro.refl_drew _ _ _ | with_reducible exact Gro.refl_drewN _ _ _ _ | assumption | with_reducible apply Gro.more | with_reducible apply Gro.alloc | with_reducible apply Gro.drew | with_reducible apply Gro.drewN))) (Ty.up _ (rdProf hFr).2 (by repeat (first | with_reducible exact Gro.refl _ | with_reducible exact Gro.refl_drew _ _ _ | with_reducible exact Gro.refl_drewN _ _ _ _ | assumption | with_reducible apply Gro.more | with_reducible apply Gro.alloc | with_reducible apply Gro.drew | with_reducible apply Gro.drewN))) (by omega) (Ty.up _ (rdProf hFqr).1 (by repeat (first | with_reducible exact Gro.refl _ | with_reducible exact Gro.refl_drew _ _ _ | with_reducible exact Gro.refl_drewN _ _ _ _ | assumption | with_reducible apply Gro.more | with_reducible apply Gro.alloc | with_reducible apply Gro.drew | with_reducible apply Gro.drewN))) (Ty.up _ (rdProf hFqr).2 (by repeat (first | with_reducible exact Gro.refl _ | with_reducible exact Gro.refl_drew _ _ _ | with_reducible exact Gro.refl_drewN _ _ _ _ | assumption | with_reducible apply Gro.more | with_reducible apply Gro.alloc | with_reducible apply Gro.drew | with_reducible apply Gro.drewN))) (by omega)).mono ?_); rw [HSAME.out]; rintro e w6 ⟨rfl, os6, d6, rfl⟩)
                | (go_at_call 12; (with_reducible refine (profileOk_i (p := p) (Ty.up _ (rdProf hFr).1 (by repeat (first | with_reducible exact Gro.refl _ | with_reducible exact Gro.refl_drew _ _ _ | with_reducible exact Gro.refl_drewN _ _ _ _ | assumption | with_reducible apply Gro.more | with_reducible apply Gro.alloc | with_reducible apply Gro.drew | with_reducible apply Gro.drewN))) (Ty.up _ (rdProf hFr).2 (by repeat (first | with_reducible exact Gro.refl _ | with_reducible exact Gro.refl_drew _ _ _ | with_reducible exact Gro.refl_drewN _ _ _ _ | assumption | with_reducible apply Gro.more | with_reducible apply Gro.alloc | with_reducible apply Gro.drew | with_reducible apply Gro.drewN)))).mono ?_); rw [HPO.out]; rintro e w7 ⟨rfl, os7, d7, rfl⟩))
              go_ret
              exact ⟨rfl, (by repeat (first | with_reducible exact Gro.refl _ | with_reducible exact Gro.refl_drew _ _ _ | with_reducible exact Gro.refl_drewN _ _ _ _ | assumption | with_reducible apply Gro.more | with_reducible apply Gro.alloc | with_reducible apply Gro.drew | with_reducible apply Gro.drewN))⟩

theorem door_met (os : Os) (args : Array Value) : laidMetH Tryd.prog Rows.fnCountedRow.laid ((World.doorLaid Tryd.prog 400 os).forCall (fun _ _ => 0) ⟨#[], args, []⟩).memory :=
  laidMetH_of_parts3 (fuel := 8) (laidMet_of_run' 8 (by kernel_rfl) (by kernel_rfl)) (by kernel_rfl) (by kernel_rfl)
set_option maxRecDepth 100000 in
theorem lifted (os : Os) (started : os.Started) (H : Type) (enc : TypeId × Value → H) :
    ReturnsInHanded {} Tryd.checked os 3 .any (fun w args => (Rows.fnCountedSpec.pre enc Tryd.prog Tryd.f3 Rows.fnCountedRow.domain false w args ∧ laidMetH Tryd.prog Rows.fnCountedRow.laid w) ∧ sizedMet enc Tryd.prog Tryd.f3 (OpenSpec.ofChange Rows.fnCountedSpec) false w args) (Rows.fnCountedSpec.post enc Tryd.prog Tryd.f3 false true false false) := by
  refine returnsInHanded_of_change_and (C := Tryd.checked) (X := fun w _ => laidMetH Tryd.prog Rows.fnCountedRow.laid w) (fun _ _ _ hh h => h.of_heap hh) own started (by kernel_rfl) Tryd.func3
    (ChangeSpec.witness_shaped (enc := enc) (C := Tryd.checked) (os := os) (X := fun w _ => laidMetH Tryd.prog Rows.fnCountedRow.laid w) false (World.doorLaid Tryd.prog 400 os) #[.slice none 0 0] 8 rfl (World.shaped_of_RefB (by kernel_rfl) (by kernel_rfl)) (by kernel_rfl) (by kernel_rfl) (by kernel_rfl) (door_met os _)) ?_
  intro W base args ds gs before hval0 hW _ _ hL _
  have hval : ∀ (j : Nat) t v, Tryd.f3.params[j]? = some t → args[j]? = some v → Value.okWide Tryd.prog W .any base t v := hval0
  have hW' := hW
  obtain ⟨p, q, hA0, hV, rfl, hfz, hnd⟩ := hW
  have hA : DataW.TrodAll enc Tryd.prog W 0 (fun _ => true) true Tryd.f3.params.toList args.toList ds p := hA0
  rw [Tryd.params3] at hA hval
  obtain ⟨v0, vs0, d0, ds0, p0, q0, hargs, rfl, rfl, h0, r0⟩ := trodAll_cons hA
  obtain ⟨rfl, rfl, rfl⟩ := trodAll_nil r0
  obtain rfl : args = #[v0] := by cases args; simp_all
  obtain ⟨rfl, rfl⟩ := trodVars_none hV
  have k0 := h0
  have lt0 : ∀ x ∈ p0, x.block < W.heap.size := by obtain ⟨m, hm⟩ := k0; exact DataW.trod_lt m _ _ _ hm
  obtain ⟨a0, w0⟩ := arg_open (opens_sl (e' := 5) Tryd.underlying22 (by kernel_rfl) (by decide) (opens_byte Tryd.underlying5)) h0
  rw [arg_slice Tryd.underlying22 (hval 0 22 v0 rfl rfl)] at w0
  clear hA0 hval0
  refine (walk W v0 a0 w0).mono fun e W' ⟨he, hgro⟩ => ?_
  subst he
  have bel := hgro.below
  exact ⟨_, rfl, _, _, _, [], _, [], hW', trodAll_mk1 (shut_bool Tryd.underlying4 _), (trodAll_cons_mk (Below.trod laidOut (by kernel_rfl) (of_decide_eq_true (by kernel_rfl)) k0 bel lt0) trodAll_mk0), rfl, bel.frame _, fun h => by cases h⟩
theorem over : Rows.fnCountedRow.holds Tryd.pinned (OpenSpec.ofChange Rows.fnCountedSpec) :=
  OpenClaim.holds_of_wide 3 Tryd.f3 rfl rfl rfl rfl rfl rfl rfl ⟨rfl, rfl, rfl, rfl, rfl⟩ rfl rfl rfl rfl rfl (by kernel_rfl) Tryd.func3 (by kernel_rfl)
    (of_decide_eq_true (by kernel_rfl)) (by unfold Func.isWrapper; first | (rw [if_pos (by decide +kernel)]; kernel_rfl) | (rw [if_neg (by decide +kernel)]; exact ⟨rfl, rfl⟩))
    (fun os started H enc _ => lifted os started H enc)
/-- THE STATEMENT: the tied card -/
theorem proved : Rows.FnCountedCardSaid :=
  Claim7.holds_tied_plain_at .later [] [.data, .data, .data] true (true, "2a65b328aa252add8de26320893d62113b55db846be93daad974575d28be4281") false
    over (fun _ h => by cases h) (by kernel_rfl) (fun _ h => by cases h) fnCounted_row_tie rfl ⟨rfl, rfl⟩ (by kernel_rfl) rfl
    (fun f fn hf hfn => by
      obtain rfl : f = 3 := Option.some.inj ((show Tryd.prog.funcNamed "loop.example/g03314/laws.FnCounted" = some 3 by kernel_rfl).symm.trans hf) |>.symm
      obtain rfl : fn = Tryd.f3 := (Option.some.inj (Tryd.func3.symm.trans hfn)).symm
      exact ⟨by kernel_rfl, fun j t ht => by
        rw [Tryd.params3] at ht
        have hm : t ∈ [22] := by simpa using Array.mem_of_getElem? ht
        have hall : ([22].all fun u => !Tryd.prog.wantsStandIn u) = true := by kernel_rfl
        exact (show Tryd.prog.wantsStandIn t = false by simpa using List.all_eq_true.1 hall t hm)⟩)
    (by kernel_rfl)
#print axioms proved
end Go.Proofs.YtdlkoffandhclaaDoor.fnCounted
