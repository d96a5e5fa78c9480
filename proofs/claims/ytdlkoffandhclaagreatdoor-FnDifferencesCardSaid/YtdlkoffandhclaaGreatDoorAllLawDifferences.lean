/-
  The law FnDifferences answers true for every input: the differences of two drawn profiles lead from one to the other, and there are none for equal ones; the input stays. No condition.
-/
import Derived.Test.YtdlkoffandhclaaGreatDoorBytes
import Derived.Test.YtdlkoffandhclaaGreatDoorAppend2
import Derived.Test.YtdlkoffandhclaaGreatDoorBox2
import Derived.Test.YtdlkoffandhclaaGreatDoorOpen
import Derived.BigQuiet
import Derived.Deep.RegionHeld3
import Derived.Test.YtdlkoffandhclaaGreatDoorEntLaw
import Derived.Test.YtdlkoffandhclaaGreatDoorParseLaw
import Derived.Test.YtdlkoffandhclaaGreatDoorPathLaw
import Derived.Test.YtdlkoffandhclaaGreatDoorDiffLaw
import Derived.Test.YtdlkoffandhclaaGreatDoorStacks3
import Derived.Deep.RegionWith
import Derived.Deep.RegionLaw
import Derived.Test.YtdlkoffandhclaaGreatDoorRowsPut
import Derived.Test.YtdlkoffandhclaaGreatDoorProfile2
import Derived.Test.YtdlkoffandhclaaGreatDoorProfOf
import Derived.Test.YtdlkoffandhclaaGreatDoorSameP
import Derived.Test.YtdlkoffandhclaaGreatDoorEnts
import Derived.Test.YtdlkoffandhclaaGreatDoorEnts2
import Derived.Deep.CutRange
import Derived.Test.YtdlkoffandhclaaGreatDoorOwn
import Derived.Test.YtdlkoffandhclaaGreatDoorBox4
import Derived.Test.YtdlkoffandhclaaGreatDoorTidy
import Derived.Test.YtdlkoffandhclaaGreatDoorBox5
import Derived.Test.YtdlkoffandhclaaGreatDoorBase
import Derived.Test.YtdlkoffandhclaaGreatDoorProg
import Derived.Test.YtdlkoffandhclaaGreatDoorParse3
import Derived.HandedShaped
import Derived.Lay
import Derived.Test.YtdlkoffandhclaaGreatDoorRows
import Derived.Test.YtdlkoffandhclaaGreatDoorTie
import Derived.Test.YtdlkoffandhclaaGreatDoorCards
import Derived.LaidMore
import Derived.Stop.Joined
import Derived.SevenTiedAt
import Derived.ShutString
set_option linter.unusedVariables false
set_option linter.unusedSimpArgs false
namespace Go.Proofs.YtdlkoffandhclaaGreatDoor
open Go.RowKit
/-- the part below a block number -/
def cut (W : World) (n : Nat) : World := { W with heap := W.heap.extract 0 n }
theorem cut_size {W : World} {n : Nat} (h : n ≤ W.heap.size) : (cut W n).heap.size = n := by
  simp only [cut, Array.size_extract]
  omega
theorem cut_get {W : World} {n i : Nat} (h : n ≤ W.heap.size) (hi : i < n) : (cut W n).heap[i]? = W.heap[i]? := by
  simp only [cut]
  rw [Array.getElem?_extract, if_pos (by omega), Nat.zero_add]
theorem cut_gro {W : World} {n : Nat} (h : n ≤ W.heap.size) : Gro (cut W n) W :=
  Gro.of_below ⟨rfl, rfl, rfl, by rw [cut_size h]; exact h, fun k hk => by rw [cut_size h] at hk; exact (cut_get h hk).symm⟩
theorem Gro.cut {w W : World} {n : Nat} (h : Gro w W) (hn : w.heap.size ≤ n) (h2 : n ≤ W.heap.size) : Gro w (cut W n) := by
  have hb := h.below
  exact Gro.of_below ⟨hb.os, hb.tape, hb.output, by rw [cut_size h2]; exact hn, fun k hk => by rw [cut_get h2 (by omega)]; exact hb.block k hk⟩
theorem cell_up {a b : World} (h : Gro a b) {p : Addr} {v : Value} (hp : a.cell? p = some v) : b.cell? p = some v := by
  obtain ⟨os, d, rfl⟩ := h
  exact gro_keeps hp os d
/-- a cursor's block -/
structure Cur (w W : World) (k : Nat) : Prop where
  lo : w.heap.size ≤ k
  gro : Gro w W
  at_ : ∃ (A : Option Addr) (n c : Nat) (i h : Int) (xs : List UInt8), W.heap[k]? = some (.cells #[.slice A n c, .int .i64 i, .int .i64 h] 107 (0, 0)) ∧ 0 ≤ i ∧ I64 i ∧ I64 h ∧ (byteT.sl 5).R w w.heap.size [.slice A n c] xs
theorem Cur.lt {w W : World} {k : Nat} (h : Cur w W k) : k < W.heap.size := by
  obtain ⟨_, _, _, _, _, _, h1, _⟩ := h.at_
  exact (Array.getElem?_eq_some_iff.1 h1).1
/-- a world that has the cursor's block and grows from the same beginning -/
theorem Cur.to {w W W' : World} {k : Nat} (h : Cur w W k) (hb : W'.heap[k]? = W.heap[k]?) (hg : Gro w W') : Cur w W' k := by
  obtain ⟨A, n, c, i, h', xs, h1, h2⟩ := h.at_
  exact ⟨h.lo, hg, A, n, c, i, h', xs, by rw [hb]; exact h1, h2⟩
theorem Cur.more {w W W' : World} {k : Nat} (h : Cur w W k) (hg : Gro W W') : Cur w W' k := h.to (hg.block h.lt) (h.gro.trans hg)
theorem Cur.only {w W W' : World} {k : Nat} {S : List Nat} (h : Cur w W k) (hs : OnlyS S W W') (hk : k ∉ S) (hS : ∀ b ∈ S, w.heap.size ≤ b) : Cur w W' k := h.to (hs.block k h.lt hk) (hs.gro h.gro hS)
theorem Cur.below {w W W' : World} {k lo : Nat} (h : Cur w W k) (hb : Below lo W W') (hk : k < lo) : Cur w W' k :=
  h.to (hb.block k hk) (Gro.of_below (h.gro.below.trans (hb.mono (by have := h.lo; omega))))
theorem OnlyS.below {S : List Nat} {a W W' : World} {lo : Nat} (h : OnlyS S a W) (hb : Below lo W W') (hl : a.heap.size ≤ lo) : OnlyS S a W' :=
  ⟨hb.os.trans h.os, hb.tape.trans h.tape, hb.output.trans h.output, Nat.le_trans h.size hb.size, fun i hi hn => (hb.block i (by omega)).trans (h.block i hi hn)⟩
theorem FrN.only {α : Type} {T : Ty α} {lo hi k : Nat} {a b : World} {cs : List Value} {x : α} (h : FrN T lo hi a cs x) (hs : OnlyS [k] a b) (hk : k < lo) : FrN T lo hi b cs x := by
  obtain ⟨S, h1, h2, h3⟩ := h
  exact ⟨S, T.keepO h1 (fun j hj => hs.block j (T.ltO h1 j hj) (by have := h3 j hj; simp; omega)), h2, h3⟩
section
variable {α : Type} {T : Ty α} {e : TypeId} {P : Program} {t : TypeId} {bytes : Nat} {ops : Array Oper} {rest : List Oper} {o : Oper} {a : Act} {Q : Exit → Act → World → Prop} {K : Act → World → Prop}
/-- 'append(own, v)' in a world of which the own blocks' beginning alone is known -/
theorem run_append_up (hE : Elem P t e T bytes) {ty : TypeId} {W We : World} {lo hi g cc : Nat} {A : Option Addr} {n c : Nat} {xs : List α} (h : FrN (T.sl e) lo hi W [.slice A n c] xs) (hlo : lo ≤ W.heap.size)
    {ec : List Value} {y : α} (hy : Fresh T We W ec y) (hhi : hi ≤ We.heap.size) (hle : lo ≤ We.heap.size) (hcell : ∀ (j : Nat) (u : Value), ec[j]? = some u → W.cell? ⟨g, j, none⟩ = some u)
    {L : Nat} (hL : L = n + 1) (hb : L * bytes ≤ 140737488355328) (h63 : L ≤ 9223372036854775807) :
    ∃ A' c'' W', (Builtin.append_ #[t, t] ty #[.slice A n c, .slice (some ⟨g, 0, none⟩) 1 cc]).run P W = .ok (.slice A' L c'') W' ∧ Below lo W W' ∧ FrN (T.sl e) lo W'.heap.size W' [.slice A' L c''] (xs ++ [y]) := by
  obtain ⟨S, h1, h2, h3⟩ := h
  have hf : Fre (T.sl e) (cut W lo) hi W [.slice A n c] xs := ⟨S, h1, h2, fun b hb => by rw [cut_size hlo]; exact h3 b hb⟩
  have hg : Gro (cut W lo) W := cut_gro hlo
  obtain ⟨A', c'', W', hrun, ⟨row, hgr, hrow⟩, hF⟩ := run_append_one (P := P) (ty := ty) (W0 := cut W lo) (We := We) (m0 := lo) hE hlo hle hf hy hhi (by rw [cut_size hlo]; exact hle) hcell hL hb h63
  have hg2 := hg.grown hgr (fun k hk => (hrow k hk).1)
  have hb2 := hg2.below
  rw [cut_size hlo] at hb2
  obtain ⟨S2, k1, k2, k3⟩ := hF
  refine ⟨A', c'', W', hrun, ⟨hb2.os, hb2.tape, hb2.output, hgr.size, fun i hi => (hb2.block i hi).trans (cut_get hlo hi)⟩, S2, k1, k2, fun b hb => ⟨?_, (T.sl e).ltO k1 b hb⟩⟩
  rcases k3 b hb with h | h
  · rw [cut_size hlo] at h
    exact h.1
  · exact h
theorem step_append_up {E : Prop} (hgd : o.guard = none) (s x : Operand) (hE : Elem P t e T bytes) (hf : Flat T) {W W1 : World} {lo hi B g cc : Nat} {A : Option Addr} {n c : Nat} {xs : List α} (h : FrN (T.sl e) lo hi W [.slice A n c] xs) (hlo : lo ≤ W.heap.size) (hhi : hi ≤ W.heap.size)
    {ec : List Value} {y : α} (hy : T.R W1 B ec y)
    (ho : o.op = .call { callee := .builtin .append, args := #[s, x], argTypes := #[t, t] }) (hs : a.eval s = .slice A n c) (hx : a.eval x = .slice (some ⟨g, 0, none⟩) 1 cc)
    (hcell : ∀ (j : Nat) (u : Value), ec[j]? = some u → W.cell? ⟨g, j, none⟩ = some u)
    {L : Nat} (hL : L = n + 1) (hb : L * bytes ≤ 140737488355328) (h63 : L ≤ 9223372036854775807)
    (hK : ∀ A' c'' W', Below lo W W' → FrN (T.sl e) lo W'.heap.size W' [.slice A' L c''] (xs ++ [y]) → K (a.put o.dst (.slice A' L c'')) W') : if Region.wanted o (yielded ops a.tmps) = true then Oper.wp P o a W K Q else E := by
  have hw : Region.wanted o (yielded ops a.tmps) = true := by simp [Region.wanted, hgd]
  rw [if_pos hw]
  obtain ⟨A', c'', W', hrun, hbl, hF⟩ := run_append_up (P := P) (ty := o.type) hE h hlo (We := W) (fresh_flat hf hy) hhi hlo hcell hL hb h63
  exact wp_of_run_append s x ho hs hx hrun (hK A' c'' W' hbl hF)
theorem wpList_append_up (hgd : o.guard = none) (s x : Operand) (hE : Elem P t e T bytes) {W We : World} {lo hi g cc : Nat} {A : Option Addr} {n c : Nat} {xs : List α} (h : FrN (T.sl e) lo hi W [.slice A n c] xs) (hlo : lo ≤ W.heap.size)
    {ec : List Value} {y : α} (hy : Fresh T We W ec y) (hhi : hi ≤ We.heap.size) (hle : lo ≤ We.heap.size)
    (ho : o.op = .call { callee := .builtin .append, args := #[s, x], argTypes := #[t, t] }) (hs : a.eval s = .slice A n c) (hx : a.eval x = .slice (some ⟨g, 0, none⟩) 1 cc)
    (hcell : ∀ (j : Nat) (u : Value), ec[j]? = some u → W.cell? ⟨g, j, none⟩ = some u)
    {L : Nat} (hL : L = n + 1) (hb : L * bytes ≤ 140737488355328) (h63 : L ≤ 9223372036854775807)
    (hK : ∀ A' c'' W', Below lo W W' → FrN (T.sl e) lo W'.heap.size W' [.slice A' L c''] (xs ++ [y]) → wpList P ops Q rest (a.put o.dst (.slice A' L c'')) W') : wpList P ops Q (o :: rest) a W :=
  wpList_plain hgd fun K hKK => by
    obtain ⟨A', c'', W', hrun, hbl, hF⟩ := run_append_up (P := P) (ty := o.type) hE h hlo hy hhi hle hcell hL hb h63
    exact wp_of_run_append s x ho hs hx hrun (hKK _ _ (hK A' c'' W' hbl hF))
end
end Go.Proofs.YtdlkoffandhclaaGreatDoor
namespace Go.Proofs.YtdlkoffandhclaaGreatDoor
open Go.RowKit
theorem opens_byte {P : Program} {t : TypeId} (ht : P.underlying t = some (.int .u8)) : Opens P t byteT := by
  intro H enc W spare held fuel cs x h
  obtain ⟨n, rfl, _, hw⟩ := DataW.trod_int ht h
  have h1 : 0 ≤ n ∧ n ≤ 255 := by simpa [Lit.wf, IntKind.min, IntKind.max, IntKind.signed, IntKind.bits] using hw
  exact ⟨_, byte_mkR h1.1 (by omega)⟩
theorem and255 (a : Int) : ∃ n : Nat, bits .and .i64 a 255 = (n : Int) ∧ n < 256 := by
  refine ⟨((BitVec.ofInt 64 a &&& BitVec.ofInt 64 255).toNat), ?_, ?_⟩
  · show IntKind.i64.wrap ((BitVec.ofInt 64 a &&& BitVec.ofInt 64 255).toNat : Int) = _
    rw [BitVec.toNat_and, show (BitVec.ofInt 64 255).toNat = 2 ^ 8 - 1 from rfl, Nat.and_two_pow_sub_one_eq_mod]
    exact IntWalk.i64_in _ ⟨by omega, by omega⟩
  · rw [BitVec.toNat_and, show (BitVec.ofInt 64 255).toNat = 2 ^ 8 - 1 from rfl, Nat.and_two_pow_sub_one_eq_mod]
    omega
theorem cur_cells {W : World} {k : Nat} {a b c : Value} (h : W.heap[k]? = some (.cells #[a, b, c] 107 (0, 0))) :
    W.cell? ⟨k, 0, none⟩ = some a ∧ W.cell? ⟨k, 1, none⟩ = some b ∧ W.cell? ⟨k, 2, none⟩ = some c ∧ (∀ j, W.frozen? ⟨k, j, none⟩ = false) := by
  refine ⟨?_, ?_, ?_, fun j => by simp [World.frozen?, h]⟩
  all_goals
    rw [cell_of_row W k _ _ _ (0, 0) h]
    rfl
theorem and_i64 (a b : Int) : I64 (bits .and .i64 a b) := by
  show I64 (IntKind.i64.wrap _)
  rw [IntKind.wrap_i64]
  constructor <;> omega
theorem wrap64_i64 (n : Int) : I64 (wrap64 n) := by
  unfold wrap64
  constructor <;> omega
/-- the cursor written, and nothing else -/
structure CurS (w W0 W : World) (k : Nat) (A : Option Addr) (n c : Nat) (i h : Int) : Prop where
  lo : w.heap.size ≤ k
  gro : Gro w W
  only : OnlyS [k] W0 W
  blk : W.heap[k]? = some (.cells #[.slice A n c, .int .i64 i, .int .i64 h] 107 (0, 0))
  i0 : 0 ≤ i
  i1 : I64 i
  h1 : I64 h
  read : ∃ xs, (byteT.sl 5).R w w.heap.size [.slice A n c] xs
theorem CurS.out {w W0 W : World} {k : Nat} {A : Option Addr} {n c : Nat} {i h : Int} (H : CurS w W0 W k A n c i h) : Cur w W k ∧ OnlyS [k] W0 W := by
  obtain ⟨xs, hx⟩ := H.read
  exact ⟨⟨H.lo, H.gro, A, n, c, i, h, xs, H.blk, H.i0, H.i1, H.h1, hx⟩, H.only⟩
theorem CurS.seth {w W0 W : World} {k : Nat} {A : Option Addr} {n c : Nat} {i h h' : Int} (H : CurS w W0 W k A n c i h) (hb : I64 h') : CurS w W0 (W.setCell ⟨k, 2, none⟩ (.int .i64 h')) k A n c i h' :=
  ⟨H.lo, H.gro.setRow (p := ⟨k, 2, none⟩) H.lo _, H.only.setCell (p := ⟨k, 2, none⟩) (by simp) _, heap_setCell_at H.blk 2 _, H.i0, H.i1, hb, H.read⟩
theorem CurS.seti {w W0 W : World} {k : Nat} {A : Option Addr} {n c : Nat} {i h i' : Int} (H : CurS w W0 W k A n c i h) (hb0 : 0 ≤ i') (hb : I64 i') : CurS w W0 (W.setCell ⟨k, 1, none⟩ (.int .i64 i')) k A n c i' h :=
  ⟨H.lo, H.gro.setRow (p := ⟨k, 1, none⟩) H.lo _, H.only.setCell (p := ⟨k, 1, none⟩) (by simp) _, heap_setCell_at H.blk 1 _, hb0, hb, H.h1, H.read⟩
theorem CurS.drewN {w W0 W : World} {k : Nat} {A : Option Addr} {n c : Nat} {i h : Int} (H : CurS w W0 W k A n c i h) (m : Nat) : CurS w W0 (W.drewN m) k A n c i h :=
  ⟨H.lo, H.gro.drewN m, H.only.trans ((Gro.drewN (Gro.refl _) m).only _), H.blk, H.i0, H.i1, H.h1, H.read⟩
set_option maxRecDepth 100000 in
theorem byte_s {w W : World} {k : Nat} (hC : Cur w W k) : Calls Tryz.prog 108 #[.pointer (some ⟨k, 0, none⟩)] W fun e W' => ∃ x : Nat, e = .returned (.int .i64 (x : Int)) ∧ x < 256 ∧ Cur w W' k ∧ OnlyS [k] W W' := by
  obtain ⟨hlo, hgr, A, n, c, i, h, xs, hk, hi0, hi1, hh, hx⟩ := hC
  have H0 : CurS w W W k A n c i h := ⟨hlo, hgr, OnlyS.refl _ _, hk, hi0, hi1, hh, xs, hx⟩
  obtain ⟨_, _, hv, hxl, hcm⟩ := sl_at hx
  injection hv with hA hn hc
  subst hA hn hc
  obtain ⟨hc0, hc1, hc2, hfz⟩ := cur_cells hk
  have hf1 := hfz 1
  have hf2 := hfz 2
  go_enter Tryz.func108, Tryz.ntmps108
  go_wp2_with (fail)
  go_quiet (fail)
  go_wp2_with (fail)
  by_cases hlt : i < xs.length
  · obtain ⟨j, rfl⟩ := Int.eq_ofNat_of_zero_le hi0
    obtain ⟨g, off, x, ec, rfl, hgb, hxk, rfl, hcell⟩ := elem_at hx (k := j) (by omega)
    have hcx := cell_up hgr (hcell 0 _ rfl)
    simp only [show byteT.size = 1 from rfl, Nat.mul_one, Nat.add_zero] at hcx
    have hgk : g ≠ k := by omega
    have hxb := x.toNat_lt
    clear hcell hxk
    go_quiet (fail)
    go_wp2_with (fail)
    go_quiet (fail)
    go_wp2_with (fail)
    go_ret
    refine ⟨_, congrArg (fun z => Ending.returned (.int .i64 z)) (and255 _).choose_spec.1, (and255 _).choose_spec.2, ?_, ?_⟩
    · exact (((H0.seth (wrap64_i64 _)).seti (by omega) ⟨by omega, by omega⟩).drewN _).out.1
    · exact (((H0.seth (wrap64_i64 _)).seti (by omega) ⟨by omega, by omega⟩).drewN _).out.2
  · go_quiet (fail)
    go_wp2_with (fail)
    go_ret
    refine ⟨_, congrArg (fun z => Ending.returned (.int .i64 z)) (and255 _).choose_spec.1, (and255 _).choose_spec.2, ?_, ?_⟩
    · exact ((H0.seth (wrap64_i64 _)).drewN _).out.1
    · exact ((H0.seth (wrap64_i64 _)).drewN _).out.2
theorem new_blk {w : World} {os : Array Obj} {d : Nat} (b : Obj) (n : Nat) (h : n = w.heap.size + os.size := by rfl) : ((gro w os d).alloc b).heap[n]? = some b := by
  subst h
  have := heap_alloc_new (gro w os d) b
  rwa [gro_size] at this
set_option maxRecDepth 100000 in
theorem new_s {w : World} {A : Option Addr} {n c : Nat} {xs : List UInt8} (hx : (byteT.sl 5).R w w.heap.size [.slice A n c] xs) (hl : xs.length ≤ 1099511627776) : Calls Tryz.prog 49 #[.slice A n c] w fun e W' => ∃ k, e = .returned (.pointer (some ⟨k, 0, none⟩)) ∧ Cur w W' k := by
  have hx' := hx
  obtain ⟨_, _, hv, hxl, hcm⟩ := sl_at hx
  injection hv with hA hn hc
  subst hA hn hc
  go_enter Tryz.func49, Tryz.ntmps49
  go_wp2_with (fail)
  go_loopw [3, 4] (fun a b wr => ∃ (h : Int) (j : Nat), a = .int .i64 h ∧ b = .int .i64 j ∧ j ≤ xs.length ∧ I64 h ∧ Hid (Gro w wr)) (fun _ b _ => xs.length - (intOf b).toNat)
  case atStart => exact ⟨33147 + xs.length, 0, rfl, rfl, Nat.zero_le _, ⟨by omega, by omega⟩, Lib.hid (Gro.refl _)⟩
  case round =>
    obtain ⟨h, j, rfl, rfl, hj, hh, hG⟩ := hrel
    obtain ⟨os, d, rfl⟩ := hG.out
    clear hG
    by_cases hlt : j < xs.length ∧ j < 4000
    · obtain ⟨hlt1, hlt2⟩ := hlt
      obtain ⟨g, off, x, ec, rfl, hgb, hxk, rfl, hcell⟩ := elem_at hx (k := j) hlt1
      have hcx := hcell 0 _ rfl
      simp only [show byteT.size = 1 from rfl, Nat.mul_one, Nat.add_zero] at hcx
      have hxb := x.toNat_lt
      clear hcell hxk hx
      go_wp2_with (fail)
      go_roundw
      case rel => exact ⟨_, j + 1, rfl, by go_num, by omega, and_i64 _ _, Lib.hid (by repeat (first | with_reducible exact Gro.refl _ | with_reducible exact Gro.refl_drew _ _ _ | with_reducible exact Gro.refl_drewN _ _ _ _ | assumption | with_reducible apply Gro.more | with_reducible apply Gro.alloc | with_reducible apply Gro.drew | with_reducible apply Gro.drewN))⟩
      case measure => simp [intOf]; omega
    · by_cases hlt1 : j < xs.length
      · have hlt2 : ¬ j < 4000 := fun h => hlt ⟨hlt1, h⟩
        go_wp2_with (fail)
        go_ret
        refine ⟨_, rfl, ?_⟩
        exact ⟨by omega, (by repeat (first | with_reducible exact Gro.refl _ | with_reducible exact Gro.refl_drew _ _ _ | with_reducible exact Gro.refl_drewN _ _ _ _ | assumption | with_reducible apply Gro.more | with_reducible apply Gro.alloc | with_reducible apply Gro.drew | with_reducible apply Gro.drewN)), _, _, _, 0, h, xs, new_blk _ _, Int.le_refl _, ⟨by omega, by omega⟩, hh, hx⟩
      · go_wp2_with (fail)
        go_ret
        refine ⟨_, rfl, ?_⟩
        exact ⟨by omega, (by repeat (first | with_reducible exact Gro.refl _ | with_reducible exact Gro.refl_drew _ _ _ | with_reducible exact Gro.refl_drewN _ _ _ _ | assumption | with_reducible apply Gro.more | with_reducible apply Gro.alloc | with_reducible apply Gro.drew | with_reducible apply Gro.drewN)), _, _, _, 0, h, xs, new_blk _ _, Int.le_refl _, ⟨by omega, by omega⟩, hh, hx⟩
set_option maxRecDepth 100000 in
theorem below_n {w W : World} {k : Nat} (hC : Cur w W k) (n : Nat) (hn : 0 < n) (hn2 : n ≤ 1099511627776) : Calls Tryz.prog 79 #[.pointer (some ⟨k, 0, none⟩), .int .i64 (n : Int)] W fun e W' => ∃ x : Nat, e = .returned (.int .i64 (x : Int)) ∧ x < n ∧ Cur w W' k ∧ OnlyS [k] W W' := by
  by_cases h : n ≤ 256
  · go_enter Tryz.func79, Tryz.ntmps79
    go_wp2_with (go_at_call 108; (with_reducible refine (byte_s hC).mono ?_); rintro e W1 ⟨x, rfl, hx, hC1, hS1⟩)
    go_ret
    refine ⟨x % n, ?_, Nat.mod_lt _ hn, hC1, hS1⟩
    exact ret_int (show (x : Int) % (n : Int) = ((x % n : Nat) : Int) from (Int.natCast_emod x n).symm)
  · go_enter Tryz.func79, Tryz.ntmps79
    go_wp2_with (fail)
    refine (byte_s hC).mono ?_
    rintro e W1 ⟨x1, rfl, hx1, hC1, hS1⟩
    go_wp2_with (fail)
    refine (byte_s hC1).mono ?_
    rintro e W2 ⟨x2, rfl, hx2, hC2, hS2⟩
    go_wp2_with (fail)
    refine (byte_s hC2).mono ?_
    rintro e W3 ⟨x3, rfl, hx3, hC3, hS3⟩
    go_wp2_with (fail)
    refine (byte_s hC3).mono ?_
    rintro e W4 ⟨x4, rfl, hx4, hC4, hS4⟩
    go_wp2_with (fail)
    go_ret
    refine ⟨(x1 * 16777216 + x2 * 65536 + x3 * 256 + x4) % n, ?_, Nat.mod_lt _ hn, hC4, ((hS1.trans hS2).trans hS3).trans hS4⟩
    exact ret_int (show ((x1 : Int) * 16777216 + x2 * 65536 + x3 * 256 + x4) % (n : Int) = (((x1 * 16777216 + x2 * 65536 + x3 * 256 + x4) % n : Nat) : Int) from by rw [Int.natCast_emod]; rfl)
theorem below_s {w W : World} {k : Nat} (hC : Cur w W k) (n : Int) (hn : 0 < n) (hn2 : n ≤ 1099511627776) : Calls Tryz.prog 79 #[.pointer (some ⟨k, 0, none⟩), .int .i64 n] W fun e W' => ∃ x : Nat, e = .returned (.int .i64 (x : Int)) ∧ (x : Int) < n ∧ Cur w W' k ∧ OnlyS [k] W W' := by
  obtain ⟨n, rfl⟩ := Int.eq_ofNat_of_zero_le (show 0 ≤ n by omega)
  refine (below_n hC n (by omega) (by omega)).mono ?_
  rintro e W' ⟨x, h1, h2, h3⟩
  exact ⟨x, h1, by omega, h3⟩
set_option maxRecDepth 100000 in
theorem pick_s {w W : World} {k : Nat} (hC : Cur w W k) {A : Option Addr} {n c : Nat} {xs : List Int} (hx : (intT.sl 3).R W W.heap.size [.slice A n c] xs) (hk : ∀ ad, A = some ad → ad.block ≠ k) (h0 : 0 < n) (h1 : n ≤ 1000000) : Calls Tryz.prog 81 #[.pointer (some ⟨k, 0, none⟩), .slice A n c] W fun e W' => ∃ x : Int, e = .returned (.int .i64 x) ∧ x ∈ xs ∧ Cur w W' k ∧ OnlyS [k] W W' := by
  obtain ⟨_, _, hv, hxl, hcm⟩ := sl_at hx
  injection hv with hA hn hc
  subst hA hn hc
  go_enter Tryz.func81, Tryz.ntmps81
  go_wp2_with (fail)
  refine (below_s hC xs.length (by omega) (by omega)).mono ?_
  rintro e W1 ⟨i, rfl, hi, hC1, hS1⟩
  obtain ⟨g, off, x, ec, rfl, hgb, hxk, hR, hcell⟩ := elem_at hx (k := i) (by omega)
  obtain ⟨rfl, _⟩ := hR
  have hcx := (hS1.cell hgb (by simpa using hk _ rfl) _).trans (hcell 0 _ rfl)
  simp only [show intT.size = 1 from rfl, Nat.mul_one, Nat.add_zero] at hcx
  go_wp2_with (fail)
  go_ret
  exact ⟨x, rfl, List.mem_of_getElem? hxk, hC1, hS1⟩
end Go.Proofs.YtdlkoffandhclaaGreatDoor
namespace Go.Proofs.YtdlkoffandhclaaGreatDoor
open Go.RowKit
set_option maxRecDepth 100000 in
theorem big_l (A : Option Addr) (n c : Nat) (w : World) : Calls Tryz.prog 15 #[.slice A n c] w fun e w' => e = .returned (.bool (decide (1048576 < (n : Int)))) ∧ Gro w w' := by
  go_enter Tryz.func15, Tryz.ntmps15
  go_wp2_with (fail)
  go_ret
  exact ⟨rfl, (by repeat (first | with_reducible exact Gro.refl _ | with_reducible exact Gro.refl_drew _ _ _ | with_reducible exact Gro.refl_drewN _ _ _ _ | assumption | with_reducible apply Gro.more | with_reducible apply Gro.alloc | with_reducible apply Gro.drew | with_reducible apply Gro.drewN))⟩
end Go.Proofs.YtdlkoffandhclaaGreatDoor
namespace Go.Proofs.YtdlkoffandhclaaGreatDoor
open Go.RowKit
theorem frameB_no59 {f : DFrame} (hf : frameOk f = true) : (59 : UInt8) ∉ frameB f := fun k => by
  unfold frameB at k
  rcases List.mem_append.1 k with k | k
  · have := frameOk_name hf _ k
    simp at this
  · rcases List.mem_cons.1 k with k | k
    · exact absurd k (by decide)
    · exact no59 hf k
theorem valU_dec {n : Nat} (hn : n < 100) : valU (Lib.decDigits n) = n := by
  by_cases h1 : n < 10
  · rw [Lib.decDigits_one h1]
    simp only [valU, List.foldl_cons, List.foldl_nil, UInt8.toNat_ofNat']
    omega
  · rw [Lib.decDigits_two (by omega) hn]
    simp only [valU, List.foldl_cons, List.foldl_nil, UInt8.toNat_ofNat']
    omega
theorem parseU_back {n : Nat} (hn : n < 100) : parseU (Lib.decDigits n) = some n := by
  have h := parseU_ok (l := Lib.decDigits n) (by
    by_cases h1 : n < 10
    · rw [Lib.decDigits_one h1]; simp
    · rw [Lib.decDigits_two (by omega) hn]; simp) (List.all_eq_true.2 fun b hb => isDig_iff.2 (dec_bytes hn b hb)) (by rw [valU_dec hn]; omega) (by rw [valU_dec hn])
  rw [valU_dec hn] at h
  exact h
theorem part_back {f : DFrame} (hf : frameOk f = true) : parsePart (frameB f) = some f := by
  have n1 : (58 : UInt8) ∉ f.Name.data.toList := fun k => by have := frameOk_name hf _ k; simp at this
  have a := frameOk_line hf
  have n2 : (58 : UInt8) ∉ Lib.decDigits f.Line.toNat := fun k => by
    have := dec_bytes (by omega) _ k
    simp at this
  unfold parsePart frameB
  rw [cutA_at n1, cutA_no n2, List.nil_append, List.nil_append]
  simp only
  rw [parseU_back (by omega)]
  simp only [Option.map_some, Option.some.injEq]
  cases f
  simp only at a ⊢
  congr 1
  omega
theorem parseL_back : ∀ {l acc : List DFrame}, l.all frameOk = true → l ≠ [] → parseL (cutA 59 [] (joinF l)) acc = some (acc ++ l)
  | [], _, _, h => absurd rfl h
  | [f], acc, h, _ => by
    simp only [List.all_cons, List.all_nil, Bool.and_true] at h
    rw [joinF_one, cutA_no (frameB_no59 h), List.nil_append, parseL_some (part_back h), parseL]
  | f :: g :: l, acc, h, _ => by
    rw [List.all_cons, Bool.and_eq_true] at h
    rw [joinF_cons2, cutA_at (frameB_no59 h.1), List.nil_append, parseL_some (part_back h.1), parseL_back h.2 (by simp)]
    simp
theorem joinF_pos {l : List DFrame} (h : l ≠ []) : joinF l ≠ [] := by
  cases l with
  | nil => exact absurd rfl h
  | cons f l =>
    cases l with
    | nil => rw [joinF_one]; simp [frameB]
    | cons g l => rw [joinF_cons2]; simp
theorem parse_back {l : List DFrame} (h : l.all frameOk = true) (hn : l ≠ []) : parseF (fmtF l) = some l := by
  have hf : fmtF l = ⟨(joinF l).toArray⟩ := by unfold fmtF; rw [if_pos h]
  unfold parseF
  rw [hf]
  simp only
  rw [parseL_back h hn, List.nil_append]
  simp only
  rw [if_neg]
  rintro (h1 | h1)
  · have := joinF_pos hn
    have h2 : (joinF l).length = 0 := by simpa [ByteArray.size] using h1
    exact this (List.length_eq_zero_iff.1 h2)
  · exact h1 hf
theorem dec_last {n : Nat} (hn : n < 100) : ∃ b, (Lib.decDigits n).getLast? = some b ∧ b ≠ 59 := by
  have hb : ∃ b, (Lib.decDigits n).getLast? = some b ∧ b ∈ Lib.decDigits n := by
    cases h : Lib.decDigits n with
    | nil =>
      exfalso
      by_cases h1 : n < 10
      · rw [Lib.decDigits_one h1] at h; cases h
      · rw [Lib.decDigits_two (by omega) hn] at h; cases h
    | cons a l => exact ⟨_, List.getLast?_eq_some_getLast (by simp), List.getLast_mem _⟩
  obtain ⟨b, h1, h2⟩ := hb
  refine ⟨b, h1, ?_⟩
  rintro rfl
  have := dec_bytes hn _ h2
  simp at this
theorem frameB_last {f : DFrame} (hf : frameOk f = true) (x : List UInt8) : ∃ b, (x ++ frameB f).getLast? = some b ∧ b ≠ 59 := by
  have a := frameOk_line hf
  obtain ⟨b, h1, h2⟩ := dec_last (n := f.Line.toNat) (by omega)
  refine ⟨b, ?_, h2⟩
  unfold frameB
  rw [← List.append_assoc, List.append_cons, List.getLast?_append, h1]
  rfl
theorem joinF_last : ∀ {l : List DFrame} (x : List UInt8), l.all frameOk = true → l ≠ [] → ∃ b, (x ++ joinF l).getLast? = some b ∧ b ≠ 59
  | [], _, _, h => absurd rfl h
  | [f], x, h, _ => by
    simp only [List.all_cons, List.all_nil, Bool.and_true] at h
    rw [joinF_one]
    exact frameB_last h x
  | f :: g :: l, x, h, _ => by
    rw [List.all_cons, Bool.and_eq_true] at h
    rw [joinF_cons2, ← List.append_assoc, List.append_cons]
    exact joinF_last _ h.2 (by simp)
theorem parse_more {l : List DFrame} (h : l.all frameOk = true) : parseF (fmtF l ++ ⟨#[59]⟩) = none := by
  cases hp : parseF (fmtF l ++ ⟨#[59]⟩) with
  | none => rfl
  | some fs =>
    exfalso
    obtain ⟨h1, h2⟩ := parseF_fmt hp
    have h3 : fs.all frameOk = true ∧ fs ≠ [] := by
      have h8 : (fmtF fs).size ≠ 0 := by rw [h1]; exact h2
      unfold fmtF at h8
      split at h8
      · rename_i k
        refine ⟨k, fun e => ?_⟩
        subst e
        exact h8 rfl
      · exact absurd rfl h8
    obtain ⟨b, h4, h5⟩ := joinF_last [] h3.1 h3.2
    have h6 := congrArg (fun s : ByteArray => s.data.toList.getLast?) h1
    simp only [ByteArray.data_append, Array.toList_append] at h6
    have h7 : (fmtF fs).data.toList = joinF fs := by unfold fmtF; rw [if_pos h3.1]
    rw [h7, List.getLast?_append] at h6
    rw [List.nil_append] at h4
    rw [h4] at h6
    simp at h6
    exact h5 h6
theorem parse_none : parseF ⟨#[]⟩ = none := by
  unfold parseF
  split
  · rw [if_pos (.inl rfl)]
  · rfl
theorem fmt_main7 : fmtF [⟨⟨#[109, 97, 105, 110]⟩, 7⟩] = ⟨#[109, 97, 105, 110, 58, 55]⟩ := by
  have h : frameOk ⟨⟨#[109, 97, 105, 110]⟩, 7⟩ = true := by decide
  unfold fmtF
  rw [if_pos (by simp [h]), joinF_one]
  unfold frameB
  rw [show (7 : Int).toNat = 7 from rfl, Lib.decDigits_one (by decide)]
  rfl
end Go.Proofs.YtdlkoffandhclaaGreatDoor
namespace Go.Proofs.YtdlkoffandhclaaGreatDoor
open Go.RowKit
theorem countsOk_iff : ∀ {L : Int} {cs : List Int}, 0 ≤ L → (countsOk L cs = true ↔ (∀ c ∈ cs, 0 ≤ c) ∧ cs.sum ≤ L)
  | L, [], hL => by simp [countsOk, hL]
  | L, c :: cs, hL => by
    simp only [countsOk, Bool.and_eq_true, btw_iff, List.sum_cons, List.mem_cons, forall_eq_or_imp]
    constructor
    · rintro ⟨⟨h1, h2⟩, h3⟩
      have := (countsOk_iff (by omega)).1 h3
      exact ⟨⟨h1, this.1⟩, by omega⟩
    · rintro ⟨⟨h1, h2⟩, h3⟩
      have hs : 0 ≤ cs.sum := by
        clear h3
        induction cs with
        | nil => simp
        | cons a cs ih =>
          have := ih fun c hc => h2 c (List.mem_cons_of_mem _ hc)
          have := h2 a List.mem_cons_self
          simp only [List.sum_cons]
          omega
      exact ⟨⟨h1, by omega⟩, (countsOk_iff (by omega)).2 ⟨h2, by omega⟩⟩
theorem addStack_yes {p : DProfile} {l : List DFrame} {n : Int} (hp : profileOk p = true) (hn : 0 ≤ n) (hl : l ≠ []) (ha : l.all frameOk = true) (ht : totalOf p + n ≤ 1000000000000) : ∃ q, addStack p l n = (q, true) := by
  have hpp := pOk_parts hp
  have htp : 0 ≤ totalOf p ∧ totalOf p = p.Counts.sum := by
    have := countsOk_take hpp.2.2 (by omega) p.Counts.length
    rw [List.take_length] at this
    unfold totalOf
    rw [if_pos hp]
    exact ⟨this.1, rfl⟩
  have hi : internStack p.Stacks l = (⟨(internL p.Stacks.Nodes (-1) l).1⟩, (internL p.Stacks.Nodes (-1) l).2) := by
    unfold internStack
    rw [if_pos]
    simp only [Bool.and_eq_true, Bool.not_eq_true', List.isEmpty_eq_false_iff]
    exact ⟨hpp.1, hl, ha⟩
  obtain ⟨r1, ⟨ms, r2⟩, r3, r4, r5, r6⟩ := intern_path l p.Stacks.Nodes (-1) hpp.1 (by omega) (by omega) ha
  rw [pathI_neg p.Stacks.Nodes (show (-1 : Int) < 0 by omega), List.nil_append] at r5
  have h0 : 0 ≤ (internL p.Stacks.Nodes (-1) l).2 := by
    apply Decidable.byContradiction
    intro hc
    rw [pathI_neg _ (by omega)] at r5
    exact hl r5.symm
  have hle : p.Counts.length ≤ (internL p.Stacks.Nodes (-1) l).1.length := by rw [r2, List.length_append]; omega
  have hnn : ∀ c ∈ p.Counts, 0 ≤ c := ((countsOk_iff (by omega)).1 hpp.2.2).1
  have hg := padTo_get (cs := p.Counts) hle (show (internL p.Stacks.Nodes (-1) l).2.toNat < _ by omega)
  have hgn : 0 ≤ (p.Counts[(internL p.Stacks.Nodes (-1) l).2.toNat]?).getD 0 := by
    cases hc : p.Counts[(internL p.Stacks.Nodes (-1) l).2.toNat]? with
    | none => exact Int.le_refl _
    | some c => exact hnn c (List.mem_of_getElem? hc)
  refine ⟨addTo p (internStack p.Stacks l).1 (internStack p.Stacks l).2.toNat n, ?_⟩
  unfold addStack
  rw [if_pos (by rw [hp, btw_mk hn (by omega)]; rfl), hi, if_pos h0, if_pos]
  unfold addTo profileOk
  simp only [Bool.and_eq_true, decide_eq_true_eq, List.length_set]
  rw [padTo_len' hle]
  refine ⟨r1, rfl, (countsOk_iff (by omega)).2 ⟨?_, ?_⟩⟩
  · rw [hg]
    intro c hc
    rcases List.mem_or_eq_of_mem_set hc with h1 | h1
    · unfold padTo at h1
      rcases List.mem_append.1 h1 with h1 | h1
      · exact hnn c h1
      · rw [(List.mem_replicate.1 h1).2]
        exact Int.le_refl _
    · rw [h1]
      simp only [Option.getD_some]
      omega
  · rw [hg, sum_set _ _ _ _ hg]
    unfold padTo
    rw [List.sum_append, sum_zeros]
    simp only [Option.getD_some]
    omega
theorem total_bd {p : DProfile} (h : profileOk p = true) : 0 ≤ totalOf p ∧ totalOf p ≤ 1000000000000 := by
  have hpp := pOk_parts h
  have := countsOk_take hpp.2.2 (by omega) p.Counts.length
  rw [List.take_length] at this
  unfold totalOf
  rw [if_pos h]
  exact this
theorem countOf_nonneg {p : DProfile} (m : List DFrame) : 0 ≤ countOf p m := by
  unfold countOf
  split
  · rename_i hc
    have hnn : ∀ c ∈ p.Counts, 0 ≤ c := ((countsOk_iff (by omega)).1 (pOk_parts hc.2).2.2).1
    cases hx : p.Counts[(findStack p.Stacks m).toNat]? with
    | none => exact Int.le_refl _
    | some c => exact hnn c (List.mem_of_getElem? hx)
  · exact Int.le_refl _
/-- counts of a text among entries -/
def cntT (l : List DEntry) (s : ByteArray) : Int := (l.map fun e => if e.Stack = s then e.Count else 0).sum
def sumE (l : List DEntry) : Int := (l.map DEntry.Count).sum
/-- an entry of a stack that can be written -/
def entOk (e : DEntry) : Prop := ∃ s : List DFrame, s ≠ [] ∧ s.all frameOk = true ∧ e.Stack = fmtF s ∧ 0 ≤ e.Count
theorem stack_ok {p : DProfile} {m : List DFrame} (h : countOf p m ≠ 0) : m ≠ [] ∧ m.all frameOk = true := by
  obtain ⟨hp, k, hk, rfl⟩ := countOf_pos h
  exact ⟨path_ne (pOk_parts hp).1 hk, path_ok (pOk_parts hp).1 hk⟩
theorem profL_yes : ∀ {l : List DEntry} {p : DProfile}, profileOk p = true → (∀ e ∈ l, entOk e) → totalOf p + sumE l ≤ 1000000000000 →
    ∃ q, profL l p = some q ∧ profileOk q = true ∧ totalOf q = totalOf p + sumE l ∧ ∀ m, m ≠ [] → m.all frameOk = true → countOf q m = countOf p m + cntT l (fmtF m)
  | [], p, hp, _, _ => ⟨p, rfl, hp, by simp [sumE], fun m _ _ => by simp [cntT]⟩
  | e :: l, p, hp, he, ht => by
    obtain ⟨s, h1, h2, h3, h4⟩ := he e List.mem_cons_self
    have hsl : 0 ≤ sumE l := by
      have : ∀ e ∈ l, 0 ≤ e.Count := fun e' h' => by obtain ⟨_, _, _, _, h5⟩ := he e' (List.mem_cons_of_mem _ h'); exact h5
      clear ht he
      induction l with
      | nil => simp [sumE]
      | cons a l ih =>
        have := ih fun c hc => this c (List.mem_cons_of_mem _ hc)
        have := this
        have h6 := ‹∀ e ∈ a :: l, 0 ≤ e.Count› a List.mem_cons_self
        simp only [sumE, List.map_cons, List.sum_cons] at this ⊢
        omega
    have hse : sumE (e :: l) = e.Count + sumE l := by simp [sumE]
    obtain ⟨r, hr⟩ := addStack_yes hp h4 h1 h2 (by omega)
    have hpr : (parseR e.Stack) = (s, true) := by
      unfold parseR
      rw [h3, parse_back h2 h1]
    have hst : stepP p e = some r := by
      unfold stepP
      rw [hpr]
      simp only
      rw [hr]
      rfl
    have hrr := (addStack_spec hr).2.1
    have htr := addStack_total hr
    obtain ⟨q, hq1, hq2, hq3, hq4⟩ := profL_yes hrr (fun e' h' => he e' (List.mem_cons_of_mem _ h')) (by omega)
    refine ⟨q, by rw [profL_some hst]; exact hq1, hq2, by omega, fun m hm hm2 => ?_⟩
    rw [hq4 m hm hm2, addStack_count hr m]
    have hmm : (m = s) ↔ e.Stack = fmtF m := by
      rw [h3]
      constructor
      · rintro rfl; rfl
      · intro hh; exact (fmtF_inj h2 hm2 h1 hm hh).symm
    simp only [cntT, List.map_cons, List.sum_cons, hmm]
    omega
theorem ents_entOk {p : DProfile} {e : DEntry} (he : e ∈ entriesOf p) : entOk e := by
  by_cases hp : profileOk p = true
  · obtain ⟨k, hk, h1, h2, h3⟩ := (ents_iff hp e).1 he
    exact ⟨path p.Stacks.Nodes k, path_ne (pOk_parts hp).1 hk, path_ok (pOk_parts hp).1 hk, h1, by rw [h2]; exact countOf_nonneg _⟩
  · unfold entriesOf at he
    rw [if_neg hp] at he
    cases he
theorem sum_perm {l1 l2 : List Int} (h : l1.Perm l2) : l1.sum = l2.sum := by
  induction h with
  | nil => rfl
  | cons x _ ih => simp only [List.sum_cons, ih]
  | swap x y l => simp only [List.sum_cons]; omega
  | trans _ _ h1 h2 => rw [h1, h2]
theorem entTake_sum (p : DProfile) : ∀ n, n ≤ p.Counts.length → ((entTake p n).map DEntry.Count).sum = (p.Counts.take n).sum
  | 0, _ => by simp [entTake]
  | n + 1, h => by
    obtain ⟨c, hc⟩ : ∃ c, p.Counts[n]? = some c := ⟨_, List.getElem?_eq_getElem (by omega)⟩
    have ih := entTake_sum p n (by omega)
    rw [List.take_add_one, hc, List.sum_append]
    by_cases h0 : c = 0
    · subst h0
      rw [entTake_zero hc, ih]
      simp
    · rw [entTake_snoc hc h0, List.map_append, List.sum_append, ih]
      simp
theorem sumE_ents {p : DProfile} (h : profileOk p = true) : sumE (entriesOf p) = totalOf p := by
  unfold sumE entriesOf totalOf
  rw [if_pos h, if_pos h, sum_perm ((foldl_insE_perm (entTake p p.Counts.length) []).map DEntry.Count), List.nil_append, entTake_sum p _ (Nat.le_refl _), List.take_length]
theorem cntT_one {l : List DEntry} {e : DEntry} (hn : (l.map fun e => bl e.Stack).Nodup) (he : e ∈ l) : cntT l e.Stack = e.Count := by
  induction l with
  | nil => cases he
  | cons a l ih =>
    rw [List.map_cons, List.nodup_cons] at hn
    simp only [cntT, List.map_cons, List.sum_cons]
    have hz : ∀ s : ByteArray, (∀ x ∈ l, x.Stack ≠ s) → (l.map fun e => if e.Stack = s then e.Count else 0).sum = 0 := by
      intro s hs
      clear ih hn he
      induction l with
      | nil => rfl
      | cons b l ih2 =>
        simp only [List.map_cons, List.sum_cons]
        rw [if_neg (hs b List.mem_cons_self), ih2 fun x hx => hs x (List.mem_cons_of_mem _ hx)]
        rfl
    rcases List.mem_cons.1 he with rfl | he
    · rw [if_pos rfl, hz _ fun x hx e' => hn.1 (by rw [← e']; exact List.mem_map_of_mem (f := fun e => bl e.Stack) hx)]
      omega
    · rw [if_neg fun e' => hn.1 (by rw [e']; exact List.mem_map_of_mem (f := fun e => bl e.Stack) he)]
      have := ih hn.2 he
      unfold cntT at this
      omega
theorem cntT_none {l : List DEntry} {s : ByteArray} (h : ∀ e ∈ l, e.Stack ≠ s) : cntT l s = 0 := by
  unfold cntT
  induction l with
  | nil => rfl
  | cons b l ih =>
    simp only [List.map_cons, List.sum_cons]
    rw [if_neg (h b List.mem_cons_self), ih fun x hx => h x (List.mem_cons_of_mem _ hx)]
    rfl
theorem cntT_ents {p : DProfile} (h : profileOk p = true) {m : List DFrame} (hm : m ≠ []) (ha : m.all frameOk = true) : cntT (entriesOf p) (fmtF m) = countOf p m := by
  by_cases hc : countOf p m = 0
  · rw [hc]
    refine cntT_none fun e he hs => ?_
    obtain ⟨k, hk, h1, h2, h3⟩ := (ents_iff h e).1 he
    have := fmtF_inj (path_ok (pOk_parts h).1 hk) ha (path_ne (pOk_parts h).1 hk) hm (by rw [← h1, hs])
    rw [this, hc] at h2
    exact h3 h2
  · obtain ⟨_, k, hk, hpk⟩ := countOf_pos hc
    have he : (⟨fmtF m, countOf p m⟩ : DEntry) ∈ entriesOf p := (ents_iff h _).2 ⟨k, hk, by rw [hpk], by rw [hpk], hc⟩
    exact cntT_one (ents_nodup2 h) he
theorem cntT_app (a b : List DEntry) (s : ByteArray) : cntT (a ++ b) s = cntT a s + cntT b s := by simp [cntT]
theorem sumE_app (a b : List DEntry) : sumE (a ++ b) = sumE a + sumE b := by simp [sumE]
theorem countOf_empty (m : List DFrame) : countOf emptyP m = 0 := countOf_none fun _ hk => absurd hk (Nat.not_lt_zero _)
theorem total_empty : totalOf emptyP = 0 := by
  unfold totalOf
  rw [if_pos emptyP_ok]
  rfl
/-- a profile made of entries -/
theorem profR_yes2 {l : List DEntry} (he : ∀ e ∈ l, entOk e) (ht : sumE l ≤ 1000000000000) :
    (profR l).2 = true ∧ profileOk (profR l).1 = true ∧ totalOf (profR l).1 = sumE l ∧ ∀ m, m ≠ [] → m.all frameOk = true → countOf (profR l).1 m = cntT l (fmtF m) := by
  obtain ⟨q, h1, h2, h3, h4⟩ := profL_yes emptyP_ok he (by rw [total_empty]; omega)
  rw [profR_yes h1]
  refine ⟨rfl, h2, by rw [h3, total_empty]; omega, fun m hm ha => by rw [h4 m hm ha, countOf_empty]; omega⟩
theorem count_ext {p q : DProfile} (h : ∀ m, m ≠ [] → m.all frameOk = true → countOf p m = countOf q m) (m : List DFrame) : countOf p m = countOf q m := by
  by_cases h1 : m ≠ [] ∧ m.all frameOk = true
  · exact h m h1.1 h1.2
  · have h2 : countOf p m = 0 := Decidable.byContradiction fun hc => h1 (stack_ok hc)
    have h3 : countOf q m = 0 := Decidable.byContradiction fun hc => h1 (stack_ok hc)
    rw [h2, h3]
/-- a profile is the one of its entries -/
theorem back_ents {p : DProfile} (h : profileOk p = true) : (profR (entriesOf p)).2 = true ∧ profileOk (profR (entriesOf p)).1 = true ∧ entriesOf (profR (entriesOf p)).1 = entriesOf p ∧ totalOf (profR (entriesOf p)).1 = totalOf p := by
  have hb := total_bd h
  obtain ⟨h1, h2, h3, h4⟩ := profR_yes2 (fun e he => ents_entOk he) (by rw [sumE_ents h]; exact hb.2)
  refine ⟨h1, h2, ents_ext h2 h (count_ext fun m hm ha => by rw [h4 m hm ha, cntT_ents h hm ha]), by rw [h3, sumE_ents h]⟩
theorem merge_spec {p q : DProfile} (hp : profileOk p = true) (hq : profileOk q = true) (ht : totalOf p + totalOf q ≤ 1000000000000) :
    (mergeP p q).2 = true ∧ profileOk (mergeP p q).1 = true ∧ totalOf (mergeP p q).1 = totalOf p + totalOf q ∧ ∀ m, countOf (mergeP p q).1 m = countOf p m + countOf q m := by
  have hm : mergeP p q = profR (entriesOf p ++ entriesOf q) := by simp [mergeP, hp, hq]
  rw [hm]
  obtain ⟨h1, h2, h3, h4⟩ := profR_yes2 (l := entriesOf p ++ entriesOf q) (fun e he => (List.mem_append.1 he).elim ents_entOk ents_entOk) (by rw [sumE_app, sumE_ents hp, sumE_ents hq]; exact ht)
  refine ⟨h1, h2, by rw [h3, sumE_app, sumE_ents hp, sumE_ents hq], fun m => ?_⟩
  by_cases hmm : m ≠ [] ∧ m.all frameOk = true
  · rw [h4 m hmm.1 hmm.2, cntT_app, cntT_ents hp hmm.1 hmm.2, cntT_ents hq hmm.1 hmm.2]
  · have hz : ∀ r : DProfile, countOf r m = 0 := fun r => Decidable.byContradiction fun hc => hmm (stack_ok hc)
    rw [hz, hz, hz]
    rfl
theorem ents_strict {p : DProfile} (h : profileOk p = true) {k : Nat} {x y : DEntry} (hx : (entriesOf p)[k]? = some x) (hy : (entriesOf p)[k + 1]? = some y) : bl x.Stack < bl y.Stack := by
  have h1 := ents_le (p := p)
  have h2 := ents_nodup2 h
  obtain ⟨hk, hx⟩ := List.getElem?_eq_some_iff.1 hx
  obtain ⟨hk2, hy⟩ := List.getElem?_eq_some_iff.1 hy
  have h3 := List.pairwise_iff_getElem.1 h1 k (k + 1) hk hk2 (by omega)
  rw [hx, hy] at h3
  have h4 : bl x.Stack ≠ bl y.Stack := by
    intro e
    have h5 := List.pairwise_iff_getElem.1 h2 k (k + 1) (by simpa using hk) (by simpa using hk2) (by omega)
    simp only [List.getElem_map, hx, hy] at h5
    exact h5 e
  exact bl_lt_of (bl_le_of_not h3) h4
end Go.Proofs.YtdlkoffandhclaaGreatDoor
namespace Go.Proofs.YtdlkoffandhclaaGreatDoor
open Go.RowKit
theorem cntE_at : ∀ {l : List DEntry} {e : DEntry}, l.Pairwise ltE → e ∈ l → cntE l e.Stack = e.Count
  | [], e, _, h => by cases h
  | a :: l, e, hs, h => by
    rw [List.pairwise_cons] at hs
    rcases List.mem_cons.1 h with rfl | h
    · exact cnt_head _ _
    · rw [cnt_tail (lt_ne (hs.1 e h)), cntE_at hs.2 h]
theorem cntE_some : ∀ {l : List DEntry} {s : ByteArray}, cntE l s ≠ 0 → ∃ e ∈ l, e.Stack = s := by
  intro l s h
  apply Decidable.byContradiction
  intro hn
  exact h (cntE_no fun e he hs => hn ⟨e, he, hs⟩)
/-- of entries that ascend and are not zero -/
theorem mem_cnt {l : List DEntry} (hs : l.Pairwise ltE) (hz : ∀ e ∈ l, e.Count ≠ 0) (e : DEntry) : e ∈ l ↔ e.Count = cntE l e.Stack ∧ e.Count ≠ 0 := by
  constructor
  · intro h
    exact ⟨(cntE_at hs h).symm, hz e h⟩
  · rintro ⟨h1, h2⟩
    obtain ⟨x, hx, hxs⟩ := cntE_some (l := l) (s := e.Stack) (by rw [← h1]; exact h2)
    have := cntE_at hs hx
    rw [hxs, ← h1] at this
    cases x; cases e
    simp only at hxs this
    rw [← hxs, this]
    exact hx
def newC (ds : List DDelta) (e : DEntry) : Int := match ds.find? (fun d => decide (d.Stack = e.Stack)) with
  | some d => d.After
  | none => e.Count
def keepE (ds : List DDelta) (x : List DEntry) : List DEntry := x.filterMap fun e => if newC ds e = 0 then none else some ⟨e.Stack, newC ds e⟩
def addE (ds : List DDelta) : List DEntry := ds.filterMap fun d => if d.Before = 0 ∧ 0 < d.After then some ⟨d.Stack, d.After⟩ else none
def diffFits (p : DProfile) (ds : List DDelta) : Bool := ds.all fun d => decide (d.Before = cntE (entriesOf p) d.Stack)
def applyP (p : DProfile) (ds : List DDelta) : DProfile × Bool :=
  if profileOk p && diffFits p ds then profR (keepE ds (entriesOf p) ++ addE ds) else (emptyP, false)
theorem ents_nz {p : DProfile} : ∀ e ∈ entriesOf p, e.Count ≠ 0 := by
  intro e he
  by_cases hp : profileOk p = true
  · obtain ⟨k, hk, h1, h2, h3⟩ := (ents_iff hp e).1 he
    exact h3
  · unfold entriesOf at he
    rw [if_neg hp] at he
    cases he
theorem ents_pos {p : DProfile} : ∀ e ∈ entriesOf p, 0 < e.Count := fun e he => by
  obtain ⟨_, _, _, _, h⟩ := ents_entOk he
  have := ents_nz e he
  omega
theorem newC_eq {x y : List DEntry} (hx : x.Pairwise ltE) (hy : y.Pairwise ltE) {e : DEntry} (he : e ∈ x) : newC (mergeD x y) e = cntE y e.Stack := by
  unfold newC
  cases hf : (mergeD x y).find? (fun d => decide (d.Stack = e.Stack)) with
  | some d =>
    have h1 := List.mem_of_find?_eq_some hf
    have h2 : d.Stack = e.Stack := by simpa using List.find?_some hf
    have h3 := ((merge_ok x y hx hy d).1 h1).2.1
    simp only
    rw [h3, ← h2]
    rfl
  | none =>
    have h1 := List.find?_eq_none.1 hf
    simp only
    apply Decidable.byContradiction
    intro hne
    have h2 : okD x y (dl x y e.Stack) := ⟨by
      show cntE x e.Stack ≠ cntE y e.Stack
      rw [cntE_at hx he]
      exact hne, rfl, .inl ⟨e, he, rfl⟩⟩
    have h3 := h1 _ ((merge_ok x y hx hy _).2 h2)
    simp [dl] at h3
theorem mem_keep {x y : List DEntry} (hx : x.Pairwise ltE) (hy : y.Pairwise ltE) (hz : ∀ e ∈ y, e.Count ≠ 0) (e : DEntry) : e ∈ keepE (mergeD x y) x ↔ e ∈ y ∧ ∃ a ∈ x, a.Stack = e.Stack := by
  unfold keepE
  rw [List.mem_filterMap, mem_cnt hy hz]
  constructor
  · rintro ⟨a, ha, h⟩
    rw [newC_eq hx hy ha] at h
    split at h
    · cases h
    · rename_i h0
      simp only [Option.some.injEq] at h
      subst h
      exact ⟨⟨rfl, h0⟩, a, ha, rfl⟩
  · rintro ⟨⟨h1, h2⟩, a, ha, hs⟩
    refine ⟨a, ha, ?_⟩
    rw [newC_eq hx hy ha, hs, if_neg (by rw [← h1]; exact h2), ← h1]
theorem mem_add {x y : List DEntry} (hx : x.Pairwise ltE) (hy : y.Pairwise ltE) (hzx : ∀ e ∈ x, e.Count ≠ 0) (hzy : ∀ e ∈ y, 0 < e.Count) (e : DEntry) : e ∈ addE (mergeD x y) ↔ e ∈ y ∧ ¬ ∃ a ∈ x, a.Stack = e.Stack := by
  unfold addE
  rw [List.mem_filterMap]
  constructor
  · rintro ⟨d, hd, h⟩
    obtain ⟨h1, h2, h3⟩ := (merge_ok x y hx hy d).1 hd
    split at h
    · rename_i hc
      simp only [Option.some.injEq] at h
      subst h
      have hb : d.Before = cntE x d.Stack := by rw [h2]; rfl
      have ha : d.After = cntE y d.Stack := by rw [h2]; rfl
      refine ⟨(mem_cnt hy (fun e he => by have := hzy e he; omega) _).2 ⟨ha, by simp only; omega⟩, ?_⟩
      rintro ⟨a, hax, has⟩
      have := cntE_at hx hax
      rw [has] at this
      simp only at this
      have h4 := hzx a hax
      omega
    · cases h
  · rintro ⟨he, hn⟩
    have hc := cntE_at hy he
    have hp := hzy e he
    have h0 : cntE x e.Stack = 0 := cntE_no fun a ha hs => hn ⟨a, ha, hs⟩
    refine ⟨dl x y e.Stack, (merge_ok x y hx hy _).2 ⟨?_, rfl, .inr ⟨e, he, rfl⟩⟩, ?_⟩
    · show cntE x e.Stack ≠ cntE y e.Stack
      omega
    · rw [if_pos (show (dl x y e.Stack).Before = 0 ∧ 0 < (dl x y e.Stack).After from ⟨h0, by rw [show (dl x y e.Stack).After = e.Count from hc]; exact hp⟩)]
      show some (⟨e.Stack, cntE y e.Stack⟩ : DEntry) = some e
      rw [hc]
theorem nodup_ltE {l : List DEntry} (h : l.Pairwise ltE) : (l.map fun e => bl e.Stack).Nodup := by
  unfold List.Nodup
  rw [List.pairwise_map]
  exact h.imp fun {a b} hab he => by unfold ltE at hab; rw [he] at hab; exact bl_irrefl _ hab
theorem apply_diff {p q : DProfile} (hp : profileOk p = true) (hq : profileOk q = true) :
    (applyP p (diffsOf p q)).2 = true ∧ profileOk (applyP p (diffsOf p q)).1 = true ∧ entriesOf (applyP p (diffsOf p q)).1 = entriesOf q := by
  have hx := entriesOf_lt p
  have hy := entriesOf_lt q
  have hd : diffsOf p q = mergeD (entriesOf p) (entriesOf q) := by unfold diffsOf; rw [hp, hq]; rfl
  have hf : diffFits p (diffsOf p q) = true := by
    unfold diffFits
    rw [List.all_eq_true]
    intro d hdm
    rw [hd] at hdm
    obtain ⟨_, h2, _⟩ := (merge_ok _ _ hx hy d).1 hdm
    simp only [decide_eq_true_eq]
    rw [h2]
    rfl
  have hP : (keepE (diffsOf p q) (entriesOf p) ++ addE (diffsOf p q)).Perm (entriesOf q) := by
    rw [hd]
    have hk := mem_keep hx hy (fun e he => ents_nz e he)
    have ha := mem_add hx hy (fun e he => ents_nz e he) (fun e he => ents_pos e he)
    refine perm_of_mem (nodup_of_map (f := fun e => bl e.Stack) ?_) (nodup_of_map (nodup_ltE hy)) fun e => ?_
    · rw [List.map_append, List.nodup_append]
      refine ⟨?_, ?_, ?_⟩
      · have h1 := nodup_ltE hx
        have h2 : ((keepE (mergeD (entriesOf p) (entriesOf q)) (entriesOf p)).map fun e => bl e.Stack).Sublist ((entriesOf p).map fun e => bl e.Stack) := by
          generalize entriesOf p = l
          generalize mergeD l (entriesOf q) = ds
          unfold keepE
          induction l with
          | nil => simp
          | cons a l ih =>
            rw [List.filterMap_cons]
            split
            · rename_i h
              exact (List.Sublist.cons _ ih)
            · rename_i b h
              split at h
              · cases h
              · simp only [Option.some.injEq] at h
                subst h
                simp only [List.map_cons]
                exact ih.cons_cons _
        exact h1.sublist h2
      · have h1 := merge_sorted _ _ hx hy
        have h2 : ((addE (mergeD (entriesOf p) (entriesOf q))).map fun e => bl e.Stack).Sublist ((mergeD (entriesOf p) (entriesOf q)).map fun e => bl e.Stack) := by
          generalize mergeD (entriesOf p) (entriesOf q) = ds
          unfold addE
          induction ds with
          | nil => simp
          | cons a l ih =>
            rw [List.filterMap_cons]
            split
            · rename_i h
              exact (List.Sublist.cons _ ih)
            · rename_i b h
              split at h
              · simp only [Option.some.injEq] at h
                subst h
                simp only [List.map_cons]
                exact ih.cons_cons _
              · cases h
        refine List.Pairwise.sublist h2 ?_
        rw [List.pairwise_map]
        exact h1.imp fun {a b} hab he => by unfold ltD at hab; rw [he] at hab; exact bl_irrefl _ hab
      · intro a ha' b hb' hab
        obtain ⟨e1, he1, rfl⟩ := List.mem_map.1 ha'
        obtain ⟨e2, he2, rfl⟩ := List.mem_map.1 hb'
        have h1 := (hk e1).1 he1
        have h2 := (ha e2).1 he2
        have h3 := bl_inj hab
        obtain ⟨a, hax, has⟩ := h1.2
        exact h2.2 ⟨a, hax, by rw [has, h3]⟩
    · rw [List.mem_append, hk, ha]
      constructor
      · rintro (h | h)
        · exact h.1
        · exact h.1
      · intro h
        by_cases hc : ∃ a ∈ entriesOf p, a.Stack = e.Stack
        · exact .inl ⟨h, hc⟩
        · exact .inr ⟨h, hc⟩
  have hb := total_bd hq
  have hA : applyP p (diffsOf p q) = profR (keepE (diffsOf p q) (entriesOf p) ++ addE (diffsOf p q)) := by unfold applyP; rw [hp, hf]; rfl
  rw [hA]
  have hs : ∀ f : DEntry → Int, ((keepE (diffsOf p q) (entriesOf p) ++ addE (diffsOf p q)).map f).sum = ((entriesOf q).map f).sum := fun f => sum_perm (hP.map f)
  obtain ⟨h1, h2, h3, h4⟩ := profR_yes2 (l := keepE (diffsOf p q) (entriesOf p) ++ addE (diffsOf p q)) (fun e he => ents_entOk (hP.mem_iff.1 he)) (by
    unfold sumE
    rw [hs]
    have := sumE_ents hq
    unfold sumE at this
    omega)
  refine ⟨h1, h2, ents_ext h2 hq (count_ext fun m hm hma => ?_)⟩
  rw [h4 m hm hma]
  unfold cntT
  rw [hs]
  exact cntT_ents hq hm hma
theorem apply_wrong {p q : DProfile} (hp : profileOk p = true) (hq : profileOk q = true) : (applyP q (diffsOf p q)).2 = decide (diffsOf p q = []) := by
  have hx := entriesOf_lt p
  have hy := entriesOf_lt q
  have hd : diffsOf p q = mergeD (entriesOf p) (entriesOf q) := by unfold diffsOf; rw [hp, hq]; rfl
  cases hc : diffsOf p q with
  | nil =>
    have h1 := (back_ents hq).1
    have hk : keepE [] (entriesOf q) = entriesOf q := by
      have hz := ents_nz (p := q)
      have hn : ∀ e : DEntry, newC [] e = e.Count := fun _ => rfl
      unfold keepE
      generalize entriesOf q = l at hz
      induction l with
      | nil => rfl
      | cons a l ih =>
        rw [List.filterMap_cons_some (b := a) (by rw [hn, if_neg (hz a List.mem_cons_self)]), ih fun e he => hz e (List.mem_cons_of_mem _ he)]
    have hA : applyP q [] = profR (entriesOf q) := by
      unfold applyP
      rw [hq, show diffFits q [] = true from rfl, hk]
      simp [addE]
    rw [hA, h1]
    rfl
  | cons d ds =>
    have hm : d ∈ mergeD (entriesOf p) (entriesOf q) := by rw [← hd, hc]; exact List.mem_cons_self
    obtain ⟨h1, h2, h3⟩ := (merge_ok _ _ hx hy d).1 hm
    have hb : d.Before = cntE (entriesOf p) d.Stack := by rw [h2]; rfl
    have ha : d.After = cntE (entriesOf q) d.Stack := by rw [h2]; rfl
    have hf : diffFits q (d :: ds) = false := by
      unfold diffFits
      rw [List.all_cons, decide_eq_false (by rw [← ha]; exact h1)]
      rfl
    have hA : applyP q (d :: ds) = (emptyP, false) := by unfold applyP; rw [hq, hf]; rfl
    rw [hA]
    simp
theorem diff_self {p : DProfile} (hp : profileOk p = true) : diffsOf p p = [] := by
  have hx := entriesOf_lt p
  have hd : diffsOf p p = mergeD (entriesOf p) (entriesOf p) := by unfold diffsOf; rw [hp]; rfl
  cases hc : diffsOf p p with
  | nil => rfl
  | cons d ds =>
    have hm : d ∈ mergeD (entriesOf p) (entriesOf p) := by rw [← hd, hc]; exact List.mem_cons_self
    obtain ⟨h1, h2, h3⟩ := (merge_ok _ _ hx hx d).1 hm
    exfalso
    apply h1
    rw [h2]
    rfl
end Go.Proofs.YtdlkoffandhclaaGreatDoor
namespace Go.Proofs.YtdlkoffandhclaaGreatDoor
open Go.RowKit
def stk (fs : List DFrame) : Prop := fs ≠ [] ∧ fs.all frameOk = true
theorem stk_snoc {fs : List DFrame} {nm : ByteArray} {n : Int} (h : stk fs) (hn : nameOk nm = true) (hl : 0 ≤ n ∧ n ≤ 59) : stk (fs ++ [⟨nm, n⟩]) := by
  refine ⟨by simp, ?_⟩
  rw [List.all_append, h.2]
  simp [frameOk, hn, btw_mk hl.1 hl.2]
theorem lit3 {x : Nat} (h : (x : Int) < 3) : ∃ nm : ByteArray, (#[Value.string { data := #[102] }, Value.string { data := #[103, 103] }, Value.string { data := #[104] }] : Array Value)[x]? = some (.string nm) ∧ nameOk nm = true ∧ nm.size ≤ 9 := by
  have : x = 0 ∨ x = 1 ∨ x = 2 := by omega
  rcases this with rfl | rfl | rfl
  · exact ⟨_, rfl, by decide, by decide⟩
  · exact ⟨_, rfl, by decide, by decide⟩
  · exact ⟨_, rfl, by decide, by decide⟩
set_option maxRecDepth 100000 in
set_option maxHeartbeats 2000000 in
theorem stack_s {w W : World} {k : Nat} (hC : Cur w W k) : Calls Tryz.prog 80 #[.pointer (some ⟨k, 0, none⟩)] W fun e W' => ∃ A c fs, e = .returned (.slice A fs.length c) ∧ stk fs ∧ fs.length ≤ 4 ∧ Cur w W' k ∧ OnlyS [k] W W' ∧ FrN (tFrame.sl 90) W.heap.size W'.heap.size W' [.slice A fs.length c] fs := by
  go_enter Tryz.func80, Tryz.ntmps80
  go_wp2_with (fail)
  refine (below_s hC 3 (by decide) (by decide)).mono ?_
  rintro e W1 ⟨x1, rfl, hx1, hC1, hS1⟩
  go_wp2_with (fail)
  refine (below_s (hC1.more (by repeat (first | with_reducible exact Gro.refl _ | with_reducible exact Gro.refl_drew _ _ _ | with_reducible exact Gro.refl_drewN _ _ _ _ | assumption | with_reducible apply Gro.more | with_reducible apply Gro.alloc | with_reducible apply Gro.drew | with_reducible apply Gro.drewN))) 4 (by decide) (by decide)).mono ?_
  rintro e W2 ⟨x2, rfl, hx2, hC2, hS2⟩
  go_wp2_with (fail)
  go_loopw [3, 4] (fun a b wr => ∃ (j : Nat) (A : Option Addr) (c : Nat) (fs : List DFrame), a = .slice A fs.length c ∧ b = .int .i64 j ∧ j + fs.length ≤ 4 ∧ Hid (stk fs) ∧ Cur w wr k ∧ OnlyS [k] W wr ∧ FrN (tFrame.sl 90) W.heap.size wr.heap.size wr [.slice A fs.length c] fs) (fun _ b _ => (intOf b).toNat)
  case atStart =>
    have h0 : FrN (tFrame.sl 90) W.heap.size (W1.heap.size + 1) (W1.alloc (.cells #[.string { data := #[109, 97, 105, 110] }, .int .i64 (1 + x1)] 90)) [.slice (some ⟨W1.heap.size, 0, none⟩) 1 1] [⟨{ data := #[109, 97, 105, 110] }, 1 + x1⟩] := by
      have h1 := fresh_one (e := 90) flatFrame (W0 := W1) (W := W1) (W1 := w) (B := 0) (ec := [.string { data := #[109, 97, 105, 110] }, .int .i64 (1 + x1)]) (x := ⟨{ data := #[109, 97, 105, 110] }, 1 + x1⟩) (tFrame_mkR (x := ⟨{ data := #[109, 97, 105, 110] }, 1 + x1⟩) (by simp only; decide) ⟨by simp only; omega, by simp only; omega⟩) (Gro.refl _) rfl
      exact h1.frN.wide hS1.size (by simp)
    exact ⟨x2, _, 1, [⟨{ data := #[109, 97, 105, 110] }, 1 + x1⟩], rfl, rfl, by simp only [List.length_cons, List.length_nil]; omega, Lib.hid ⟨by simp, by simp [frameOk, show nameOk { data := #[109, 97, 105, 110] } = true by decide]; exact btw_mk (by omega) (by omega)⟩, hC2, (hS1.trans (Gro.only (by repeat (first | with_reducible exact Gro.refl _ | with_reducible exact Gro.refl_drew _ _ _ | with_reducible exact Gro.refl_drewN _ _ _ _ | assumption | with_reducible apply Gro.more | with_reducible apply Gro.alloc | with_reducible apply Gro.drew | with_reducible apply Gro.drewN)) _)).trans hS2, (h0.only hS2 hC.lt).wide (Nat.le_refl _) (by have := hS2.size; simpa using this)⟩
  case round =>
    obtain ⟨j, A, c, fs, rfl, rfl, hj, hst, hC3, hS3, hF3⟩ := hrel
    by_cases hlt : 0 < j
    · go_wp2_with (fail)
      have hkl := hC3.lt
      have hkW := hC.lt
      have hWr := hS3.size
      go_region_law (first
        | (go_simp; go_at_call 79; (with_reducible refine (below_s (hC4.more (by (repeat (first | with_reducible exact Gro.refl _ | with_reducible exact Gro.refl_drew _ _ _ | with_reducible exact Gro.refl_drewN _ _ _ _ | assumption | with_reducible apply Gro.more | with_reducible apply Gro.alloc | with_reducible apply Gro.drew | with_reducible apply Gro.drewN)); done)) 3 (by decide) (by decide)).mono ?_); rintro e W5 ⟨x5, rfl, hx5, hC5, hS5⟩; have hSS : OnlyS [k] wr W5 := (Gro.only (by repeat (first | with_reducible exact Gro.refl _ | with_reducible exact Gro.refl_drew _ _ _ | with_reducible exact Gro.refl_drewN _ _ _ _ | assumption | with_reducible apply Gro.more | with_reducible apply Gro.alloc | with_reducible apply Gro.drew | with_reducible apply Gro.drewN)) _).trans (hS4.trans ((Gro.only (by repeat (first | with_reducible exact Gro.refl _ | with_reducible exact Gro.refl_drew _ _ _ | with_reducible exact Gro.refl_drewN _ _ _ _ | assumption | with_reducible apply Gro.more | with_reducible apply Gro.alloc | with_reducible apply Gro.drew | with_reducible apply Gro.drewN)) _).trans hS5)); have hF5 := hF3.only hSS hkW; have hz5 := hSS.size; have hwr : IntKind.i64.wrap (4 + (x5 : Int)) = 4 + x5 := IntWalk.i64_in _ ⟨by omega, by omega⟩; (try have hcl := (hS5.cell (g := wr.heap.size) (by have := hS4.size; simp at this; simp; omega) (by simp; omega) x4).trans hcl); have hl4 := hC4.lt; (try have hcl2 := (hS5.cell (g := W4.heap.size) (by simp) (by simp; omega) x4).trans (show _ = some (Value.string nm) from by simpa [go_sem] using hnm)))
        | (go_simp; go_at_call 79; (with_reducible refine (below_s (hC3.more (by (repeat (first | with_reducible exact Gro.refl _ | with_reducible exact Gro.refl_drew _ _ _ | with_reducible exact Gro.refl_drewN _ _ _ _ | assumption | with_reducible apply Gro.more | with_reducible apply Gro.alloc | with_reducible apply Gro.drew | with_reducible apply Gro.drewN)); done)) 3 (by decide) (by decide)).mono ?_); rintro e W4 ⟨x4, rfl, hx4, hC4, hS4⟩; obtain ⟨nm, hnm, hok, hsz⟩ := lit3 hx4; try have hcl := (hS4.cell (g := wr.heap.size) (by simp) (by simp; omega) x4).trans (show _ = some (Value.string nm) from by simpa [go_sem] using hnm))
        | (refine step_append_up (lo := W.heap.size) (L := fs.length + 1) rfl (.tmp 16) (.tmp 26) elFrame flatFrame (hF5.gro (by (repeat (first | with_reducible exact Gro.refl _ | with_reducible exact Gro.refl_drew _ _ _ | with_reducible exact Gro.refl_drewN _ _ _ _ | assumption | with_reducible apply Gro.more | with_reducible apply Gro.alloc | with_reducible apply Gro.drew | with_reducible apply Gro.drewN)); done)) (by simp; omega) (by simp; omega) (W1 := w) (B := 0) (ec := [.string nm, .int .i64 (4 + x5)]) (y := ⟨nm, 4 + x5⟩) (tFrame_mkR (x := ⟨nm, 4 + x5⟩) (by simp only; omega) ⟨by simp only; omega, by simp only; omega⟩) rfl rfl rfl (by intro j u hu; simpa [go_sem, hwr] using hu) rfl (by omega) (by omega) ?_; intro A6 c6 W6 hb6 hF6))
      all_goals go_wp2_with (fail)
      all_goals go_roundw
      all_goals try (case measure => simp [intOf]; omega)
      all_goals refine ⟨j - 1, A6, c6, fs ++ [⟨nm, 4 + x5⟩], by simp, by go_num, by simp only [List.length_append, List.length_cons, List.length_nil]; omega, Lib.hid (stk_snoc hst.out hok ⟨by omega, by omega⟩), (hC5.more (by repeat (first | with_reducible exact Gro.refl _ | with_reducible exact Gro.refl_drew _ _ _ | with_reducible exact Gro.refl_drewN _ _ _ _ | assumption | with_reducible apply Gro.more | with_reducible apply Gro.alloc | with_reducible apply Gro.drew | with_reducible apply Gro.drewN))).below hb6 hkW, (hS3.trans (hSS.trans (Gro.only (by repeat (first | with_reducible exact Gro.refl _ | with_reducible exact Gro.refl_drew _ _ _ | with_reducible exact Gro.refl_drewN _ _ _ _ | assumption | with_reducible apply Gro.more | with_reducible apply Gro.alloc | with_reducible apply Gro.drew | with_reducible apply Gro.drewN)) _))).below hb6 (Nat.le_refl _), by rw [List.length_append]; exact hF6⟩
    · obtain rfl : j = 0 := by omega
      go_wp2_with (fail)
      go_ret
      exact ⟨A, c, fs, rfl, hst.out, by omega, hC3, hS3, hF3⟩
def stks (l : List (List DFrame)) : Prop := ∀ s ∈ l, stk s ∧ s.length ≤ 4
end Go.Proofs.YtdlkoffandhclaaGreatDoor
namespace Go.Proofs.YtdlkoffandhclaaGreatDoor
open Go.RowKit
theorem box2 {W : World} {g : Nat} {a b : Value} {e : TypeId} (h : W.heap[g]? = some (.cells #[a, b] e (0, 0))) :
    W.cell? ⟨g, 0, none⟩ = some a ∧ W.cell? ⟨g, 1, none⟩ = some b ∧ W.frozen? ⟨g, 0, none⟩ = false ∧ W.frozen? ⟨g, 1, none⟩ = false ∧ g < W.heap.size := by
  refine ⟨?_, ?_, by simp [World.frozen?, h], by simp [World.frozen?, h], (Array.getElem?_eq_some_iff.1 h).1⟩
  all_goals
    rw [cell_of_row W g _ _ _ (0, 0) h]
    rfl
theorem set2 {W : World} {g : Nat} {p q : Value} {e : TypeId} (h : W.heap[g]? = some (.cells #[p, q] e (0, 0))) (a b : Value) :
    ((W.setCell ⟨g, 0, none⟩ a).setCell ⟨g, 1, none⟩ b).heap[g]? = some (.cells #[a, b] e (0, 0)) ∧ OnlyS [g] W ((W.setCell ⟨g, 0, none⟩ a).setCell ⟨g, 1, none⟩ b) :=
  ⟨heap_setCell_at (heap_setCell_at h 0 a) 1 b, ((OnlyS.refl _ _).setCell (p := ⟨g, 0, none⟩) (by simp) a).setCell (p := ⟨g, 1, none⟩) (by simp) b⟩
theorem only_below {a b : World} {g lo : Nat} (h : OnlyS [g] a b) (hl : lo ≤ g) (hg : g < a.heap.size) : Below lo a b :=
  ⟨h.os, h.tape, h.output, h.size, fun i hi => h.block i (by omega) (by simp; omega)⟩
theorem FrN.onlyL {α : Type} {T : Ty α} {lo hi : Nat} {L : List Nat} {a b : World} {cs : List Value} {x : α} (h : FrN T lo hi a cs x) (hs : OnlyS L a b) (hk : ∀ k ∈ L, k < lo) : FrN T lo hi b cs x := by
  obtain ⟨S, h1, h2, h3⟩ := h
  exact ⟨S, T.keepO h1 (fun j hj => hs.block j (T.ltO h1 j hj) (fun hm => by have := h3 j hj; have := hk j hm; omega)), h2, h3⟩
theorem grow_blk {S Y : World} {k : Nat} {o : Obj} (h : S.heap[k]? = some o) (hG : Gro S Y) : Y.heap[k]? = some o :=
  (hG.block (Array.getElem?_eq_some_iff.1 h).1).trans h
/-- a box of four numbers -/
theorem box4 {W : World} {g : Nat} {a b c d : Value} {e : TypeId} (h : W.heap[g]? = some (.cells #[a, b, c, d] e (0, 0))) :
    W.cell? ⟨g, 0, none⟩ = some a ∧ W.cell? ⟨g, 1, none⟩ = some b ∧ W.cell? ⟨g, 2, none⟩ = some c ∧ W.cell? ⟨g, 3, none⟩ = some d ∧ (∀ j, W.frozen? ⟨g, j, none⟩ = false) := by
  refine ⟨?_, ?_, ?_, ?_, fun j => by simp [World.frozen?, h]⟩
  all_goals
    rw [cell_of_row W g _ _ _ (0, 0) h]
    rfl
theorem set4 {W : World} {g : Nat} {p q r s : Value} {e : TypeId} (h : W.heap[g]? = some (.cells #[p, q, r, s] e (0, 0))) (a b c d : Value) :
    ((((W.setCell ⟨g, 0, none⟩ a).setCell ⟨g, 1, none⟩ b).setCell ⟨g, 2, none⟩ c).setCell ⟨g, 3, none⟩ d).heap[g]? = some (.cells #[a, b, c, d] e (0, 0)) ∧ OnlyS [g] W ((((W.setCell ⟨g, 0, none⟩ a).setCell ⟨g, 1, none⟩ b).setCell ⟨g, 2, none⟩ c).setCell ⟨g, 3, none⟩ d) :=
  ⟨heap_setCell_at (heap_setCell_at (heap_setCell_at (heap_setCell_at h 0 a) 1 b) 2 c) 3 d, ((((OnlyS.refl _ _).setCell (p := ⟨g, 0, none⟩) (by simp) a).setCell (p := ⟨g, 1, none⟩) (by simp) b).setCell (p := ⟨g, 2, none⟩) (by simp) c).setCell (p := ⟨g, 3, none⟩) (by simp) d⟩
end Go.Proofs.YtdlkoffandhclaaGreatDoor
namespace Go.Proofs.YtdlkoffandhclaaGreatDoor
open Go.RowKit
theorem ints_rows {w : World} : ∀ {xs : List Int}, (∀ x ∈ xs, I64 x) → Rows intT w (xs.map (Value.int .i64)) xs []
  | [], _ => ⟨rfl, rfl⟩
  | x :: xs, h => ⟨[.int .i64 x], xs.map (Value.int .i64), [], [], rfl, rfl, ⟨rfl, (h x List.mem_cons_self).1, (h x List.mem_cons_self).2, rfl⟩, ints_rows fun y hy => h y (List.mem_cons_of_mem _ hy)⟩
theorem ints_own {W : World} {e : TypeId} {cs : Array Value} {n g : Nat} (xs : List Int) (hcs : cs.toList = xs.map (Value.int .i64)) (hn : n = xs.length) (hg : g = W.heap.size) (hb : ∀ x ∈ xs, I64 x) (hl : xs.length ≤ 1000) : FrN (intT.sl e) g (g + 1) (W.alloc (.cells cs e)) [.slice (some ⟨g, 0, none⟩) n n] xs := by
  subst hn hg
  have h : (intT.sl e).O (W.alloc (.cells cs e)) [.slice (some ⟨W.heap.size, 0, none⟩) xs.length xs.length] xs (W.heap.size :: []) :=
    own_made (heap_alloc_new W _) (by rw [hcs]; exact ints_rows hb) (by omega)
  exact ⟨_, h, by simp, fun b hb => by simp at hb; omega⟩
theorem blk_only {W X Y : World} {g k : Nat} {o : Obj} (h : W.heap[g]? = some o) (hG : Gro W X) (hS : OnlyS [k] X Y) (hne : g ≠ k) : Y.heap[g]? = some o := by
  have hl : g < W.heap.size := (Array.getElem?_eq_some_iff.1 h).1
  exact (hS.block g (Nat.lt_of_lt_of_le hl hG.size) (by simpa using hne)).trans ((hG.block hl).trans h)
theorem ints_blk {W : World} {g : Nat} {cs : Array Value} {e : TypeId} {n : Nat} (h : W.heap[g]? = some (.cells cs e (0, 0))) (xs : List Int) (hcs : cs.toList = xs.map (Value.int .i64)) (hn : n = xs.length) (hb : ∀ x ∈ xs, I64 x) (hl : xs.length ≤ 1000) : (intT.sl e).R W W.heap.size [.slice (some ⟨g, 0, none⟩) n n] xs := by
  subst hn
  have h : (intT.sl e).O W [.slice (some ⟨g, 0, none⟩) xs.length xs.length] xs (g :: []) := own_made h (by rw [hcs]; exact ints_rows hb) (by omega)
  exact Ty.read _ h
/-- a good, small profile -/
def dp (p : DProfile) : Prop := profileOk p = true ∧ totalOf p ≤ 280 ∧ p.Stacks.Nodes.length ≤ 28
set_option maxRecDepth 100000 in
set_option maxHeartbeats 8000000 in
theorem prof_s {w W : World} {k : Nat} (hC : Cur w W k) : Calls Tryz.prog 50 #[.pointer (some ⟨k, 0, none⟩)] W fun e W' => ∃ (p : DProfile) (A0 : Option Addr) (c0 : Nat) (A1 : Option Addr) (c1 : Nat), e = .returned (.agg #[.slice A0 p.Stacks.Nodes.length c0, .slice A1 p.Counts.length c1]) ∧ dp p ∧ Cur w W' k ∧ OnlyS [k] W W' ∧ FrN tProfile W.heap.size W'.heap.size W' [.slice A0 p.Stacks.Nodes.length c0, .slice A1 p.Counts.length c1] p := by
  have hk := hC.lt
  have hlo := hC.lo
  have hI : ∀ x ∈ ([1, 1, 2, 5, 40] : List Int), I64 x := by intro x hx; simp at hx; constructor <;> omega
  go_enter Tryz.func50, Tryz.ntmps50
  go_wp2_with (fail)
  refine (below_s (hC.more (by repeat (first | with_reducible exact Gro.refl _ | with_reducible exact Gro.refl_drew _ _ _ | with_reducible exact Gro.refl_drewN _ _ _ _ | assumption | with_reducible apply Gro.more | with_reducible apply Gro.alloc | with_reducible apply Gro.drew | with_reducible apply Gro.drewN))) 8 (by decide) (by decide)).mono ?_
  rintro e W2 ⟨x2, rfl, hx2, hC2, hS2⟩
  have e2 : W2.heap[W.heap.size]? = some (.cells #[.slice none 0 0, .slice none 0 0] 33 (0, 0)) := blk_only (heap_alloc_new W _) (by repeat (first | with_reducible exact Gro.refl _ | with_reducible exact Gro.refl_drew _ _ _ | with_reducible exact Gro.refl_drewN _ _ _ _ | assumption | with_reducible apply Gro.more | with_reducible apply Gro.alloc | with_reducible apply Gro.drew | with_reducible apply Gro.drewN)) hS2 (by omega)
  have e3 : W2.heap[W.heap.size + 1]? = some (.cells #[.slice none 0 0, .slice none 0 0] 33 (0, 0)) := blk_only (W := (W.alloc (.cells #[.slice none 0 0, .slice none 0 0] 33)).alloc (.cells #[.slice none 0 0, .slice none 0 0] 33)) (by have := heap_alloc_new (W.alloc (.cells #[.slice none 0 0, .slice none 0 0] 33)) (.cells #[.slice none 0 0, .slice none 0 0] 33); simpa using this) (by repeat (first | with_reducible exact Gro.refl _ | with_reducible exact Gro.refl_drew _ _ _ | with_reducible exact Gro.refl_drewN _ _ _ _ | assumption | with_reducible apply Gro.more | with_reducible apply Gro.alloc | with_reducible apply Gro.drew | with_reducible apply Gro.drewN)) hS2 (by omega)
  have hz2 := hS2.size
  simp at hz2
  have hS2' : OnlyS [k] W W2 := (Gro.only (by repeat (first | with_reducible exact Gro.refl _ | with_reducible exact Gro.refl_drew _ _ _ | with_reducible exact Gro.refl_drewN _ _ _ _ | assumption | with_reducible apply Gro.more | with_reducible apply Gro.alloc | with_reducible apply Gro.drew | with_reducible apply Gro.drewN)) _).trans hS2
  go_wp2_with (fail)
  go_loopw [4] (fun b wr => ∃ (j : Nat) (p : DProfile) (A0 : Option Addr) (c0 : Nat) (A1 : Option Addr) (c1 : Nat), b = .int .i64 j ∧ j ≤ 7 ∧ Hid (profileOk p = true) ∧ totalOf p + 40 * j ≤ 280 ∧ p.Stacks.Nodes.length + 4 * j ≤ 28 ∧ p.Counts.length ≤ 28 ∧ Cur w wr k ∧ OnlyS [k] W wr ∧ W.heap.size + 2 ≤ wr.heap.size ∧ Hid (wr.heap[W.heap.size]? = some (.cells #[.slice none 0 0, .slice none 0 0] 33 (0, 0))) ∧ Hid (wr.heap[W.heap.size + 1]? = some (.cells #[.slice A0 p.Stacks.Nodes.length c0, .slice A1 p.Counts.length c1] 33 (0, 0))) ∧ FrN tProfile (W.heap.size + 2) wr.heap.size wr [.slice A0 p.Stacks.Nodes.length c0, .slice A1 p.Counts.length c1] p) (fun b _ => (intOf b).toNat)
  case atStart =>
    have h0 : FrN tProfile (W.heap.size + 2) W2.heap.size W2 [.slice none 0 0, .slice none 0 0] emptyP := by
      obtain ⟨S, h1, h2, h3⟩ := fresh_emptyP W2 W2
      exact ⟨S, h1, h2, fun b hb => by have := h3 b hb; have := tProfile.ltO h1 b hb; omega⟩
    exact ⟨x2, emptyP, none, 0, none, 0, rfl, by omega, Lib.hid emptyP_ok, by rw [total_empty]; omega, by show 0 + 4 * x2 ≤ 28; omega, Nat.zero_le _, hC2, hS2', hz2, Lib.hid e2, Lib.hid e3, h0⟩
  case round =>
    obtain ⟨j, p, A0, c0, A1, c1, rfl, hj, hpok, hpt, hpn, hpc, hC3, hS3, hz3, hb2, hb3, hF3⟩ := hrel
    have hk3 := hC3.lt
    have ht0 := (total_bd hpok.out).1
    obtain ⟨q0, q1, qf0, qf1, ql⟩ := box2 hb3.out
    by_cases hlt : 0 < j
    · go_wp2_with (fail)
      go_region_law (first
        | (go_simp; go_at_call 80; (with_reducible refine (stack_s (hC3.more (by (repeat (first | with_reducible exact Gro.refl _ | with_reducible exact Gro.refl_drew _ _ _ | with_reducible exact Gro.refl_drewN _ _ _ _ | assumption | with_reducible apply Gro.more | with_reducible apply Gro.alloc | with_reducible apply Gro.drew | with_reducible apply Gro.drewN)); done))).mono ?_); rintro e W4 ⟨A4, c4, fs, rfl, hfs, hfl, hC4, hS4, hF4⟩; have hb4 := blk_only hb3.out (by repeat (first | with_reducible exact Gro.refl _ | with_reducible exact Gro.refl_drew _ _ _ | with_reducible exact Gro.refl_drewN _ _ _ _ | assumption | with_reducible apply Gro.more | with_reducible apply Gro.alloc | with_reducible apply Gro.drew | with_reducible apply Gro.drewN)) hS4 (by omega); obtain ⟨r0, r1, rf0, rf1, rl⟩ := box2 hb4; (try (have hg5 : W4.heap[wr.heap.size]? = some (.cells #[.int .i64 1, .int .i64 1, .int .i64 2, .int .i64 5, .int .i64 40] 3 (0, 0)) := (hS4.block _ (by simp) (by simp; omega)).trans (heap_alloc_new wr _))))
        | (go_simp; go_at_call 81; have hR5 := ints_blk (n := 5) hg5 [1, 1, 2, 5, 40] rfl rfl hI (by decide); (with_reducible refine (pick_s (hC4.more (by (repeat (first | with_reducible exact Gro.refl _ | with_reducible exact Gro.refl_drew _ _ _ | with_reducible exact Gro.refl_drewN _ _ _ _ | assumption | with_reducible apply Gro.more | with_reducible apply Gro.alloc | with_reducible apply Gro.drew | with_reducible apply Gro.drewN)); done)) (xs := [1, 1, 2, 5, 40]) (Ty.up _ hR5 (by repeat (first | with_reducible exact Gro.refl _ | with_reducible exact Gro.refl_drew _ _ _ | with_reducible exact Gro.refl_drewN _ _ _ _ | assumption | with_reducible apply Gro.more | with_reducible apply Gro.alloc | with_reducible apply Gro.drew | with_reducible apply Gro.drewN))) (fun ad h => by injection h with h; subst h; simp; omega) (by omega) (by omega)).mono ?_); rintro e W5 ⟨n, rfl, hn, hC5, hS5⟩; have hb5 := blk_only hb4 (by repeat (first | with_reducible exact Gro.refl _ | with_reducible exact Gro.refl_drew _ _ _ | with_reducible exact Gro.refl_drewN _ _ _ _ | assumption | with_reducible apply Gro.more | with_reducible apply Gro.alloc | with_reducible apply Gro.drew | with_reducible apply Gro.drewN)) hS5 (by omega); obtain ⟨s0, s1, sf0, sf1, sl⟩ := box2 hb5)
        | (go_simp; go_at_call 81; have hk4 := hC4.lt; have hR5 := ints_blk (n := 5) (heap_alloc_new W4 (.cells #[.int .i64 1, .int .i64 1, .int .i64 2, .int .i64 5, .int .i64 40] 3)) [1, 1, 2, 5, 40] rfl rfl hI (by decide); (with_reducible refine (pick_s (hC4.more (by (repeat (first | with_reducible exact Gro.refl _ | with_reducible exact Gro.refl_drew _ _ _ | with_reducible exact Gro.refl_drewN _ _ _ _ | assumption | with_reducible apply Gro.more | with_reducible apply Gro.alloc | with_reducible apply Gro.drew | with_reducible apply Gro.drewN)); done)) (xs := [1, 1, 2, 5, 40]) (Ty.up _ hR5 (by repeat (first | with_reducible exact Gro.refl _ | with_reducible exact Gro.refl_drew _ _ _ | with_reducible exact Gro.refl_drewN _ _ _ _ | assumption | with_reducible apply Gro.more | with_reducible apply Gro.alloc | with_reducible apply Gro.drew | with_reducible apply Gro.drewN))) (fun ad h => by injection h with h; subst h; simp; omega) (by omega) (by omega)).mono ?_); rintro e W5 ⟨n, rfl, hn, hC5, hS5⟩; have hb5 := blk_only hb4 (by repeat (first | with_reducible exact Gro.refl _ | with_reducible exact Gro.refl_drew _ _ _ | with_reducible exact Gro.refl_drewN _ _ _ _ | assumption | with_reducible apply Gro.more | with_reducible apply Gro.alloc | with_reducible apply Gro.drew | with_reducible apply Gro.drewN)) hS5 (by omega); obtain ⟨s0, s1, sf0, sf1, sl⟩ := box2 hb5)
        | (go_simp; go_at_call 61; have hSS : OnlyS [k] wr W5 := (Gro.only (by repeat (first | with_reducible exact Gro.refl _ | with_reducible exact Gro.refl_drew _ _ _ | with_reducible exact Gro.refl_drewN _ _ _ _ | assumption | with_reducible apply Gro.more | with_reducible apply Gro.alloc | with_reducible apply Gro.drew | with_reducible apply Gro.drewN)) _).trans (hS4.trans ((Gro.only (by repeat (first | with_reducible exact Gro.refl _ | with_reducible exact Gro.refl_drew _ _ _ | with_reducible exact Gro.refl_drewN _ _ _ _ | assumption | with_reducible apply Gro.more | with_reducible apply Gro.alloc | with_reducible apply Gro.drew | with_reducible apply Gro.drewN)) _).trans hS5)); have hFp := hF3.only hSS (by omega); have hs4 := hS4.size; have hFs := (hF4.gro (w2 := _) (by (repeat (first | with_reducible exact Gro.refl _ | with_reducible exact Gro.refl_drew _ _ _ | with_reducible exact Gro.refl_drewN _ _ _ _ | assumption | with_reducible apply Gro.more | with_reducible apply Gro.alloc | with_reducible apply Gro.drew | with_reducible apply Gro.drewN)); done)).only hS5 (by first | omega | (simp; omega)); have hnb : 0 ≤ n ∧ n ≤ 40 := (by simp at hn; omega); obtain ⟨q, hq⟩ := addStack_yes hpok.out hnb.1 hfs.1 hfs.2 (by omega); (with_reducible refine (addStack_s (p := p) (l := fs) (n := n) (Ty.up _ (rdProf hFp.read).1 (by repeat (first | with_reducible exact Gro.refl _ | with_reducible exact Gro.refl_drew _ _ _ | with_reducible exact Gro.refl_drewN _ _ _ _ | assumption | with_reducible apply Gro.more | with_reducible apply Gro.alloc | with_reducible apply Gro.drew | with_reducible apply Gro.drewN))) (Ty.up _ (rdProf hFp.read).2 (by repeat (first | with_reducible exact Gro.refl _ | with_reducible exact Gro.refl_drew _ _ _ | with_reducible exact Gro.refl_drewN _ _ _ _ | assumption | with_reducible apply Gro.more | with_reducible apply Gro.alloc | with_reducible apply Gro.drew | with_reducible apply Gro.drewN))) (Ty.up _ hFs.read (by repeat (first | with_reducible exact Gro.refl _ | with_reducible exact Gro.refl_drew _ _ _ | with_reducible exact Gro.refl_drewN _ _ _ _ | assumption | with_reducible apply Gro.more | with_reducible apply Gro.alloc | with_reducible apply Gro.drew | with_reducible apply Gro.drewN))) (by omega) (by omega) (by omega)).mono ?_); rw [hq]; rintro e W6 ⟨A6, c6, A7, c7, rfl, hF6, os6, d6, rfl⟩))
      all_goals go_wp2_with (fail)
      all_goals go_roundw
      all_goals try (case measure => simp [intOf]; omega)
      all_goals
        have hqs := addStack_spec hq
        have hqt := addStack_total hq
        have hql := addStack_len p fs n
        rw [hq] at hql
        have hqc := pOk_len hqs.2.1
        have h2 := set2 hb5 (.slice A6 q.Stacks.Nodes.length c6) (.slice A7 q.Counts.length c7)
        have t4 := blk_only hb2.out (by repeat (first | with_reducible exact Gro.refl _ | with_reducible exact Gro.refl_drew _ _ _ | with_reducible exact Gro.refl_drewN _ _ _ _ | assumption | with_reducible apply Gro.more | with_reducible apply Gro.alloc | with_reducible apply Gro.drew | with_reducible apply Gro.drewN)) hS4 (by omega)
        have t5 := blk_only t4 (by repeat (first | with_reducible exact Gro.refl _ | with_reducible exact Gro.refl_drew _ _ _ | with_reducible exact Gro.refl_drewN _ _ _ _ | assumption | with_reducible apply Gro.more | with_reducible apply Gro.alloc | with_reducible apply Gro.drew | with_reducible apply Gro.drewN)) hS5 (by omega)
        have hz5 := h2.2.size
        have hbl : Below W.heap.size W5 (gro ((W5.setCell ⟨W.heap.size + 1, 0, none⟩ (.slice A6 q.Stacks.Nodes.length c6)).setCell ⟨W.heap.size + 1, 1, none⟩ (.slice A7 q.Counts.length c7)) os6 d6) := (only_below h2.2 (by omega) sl).trans ((Gro.of _ _ _).below.mono (by omega))
        simp only at hql
        refine ⟨j - 1, q, A6, c6, A7, c7, by go_num, by omega, Lib.hid hqs.2.1, by omega, by omega, by omega, (hC5.only h2.2 (by simp; omega) (fun b hb => by simp at hb; omega)).more (Gro.of _ _ _), (hS3.trans hSS).below hbl (Nat.le_refl _), by have := hbl.size; omega, Lib.hid ?_, Lib.hid ?_, ?_⟩
        · exact (gro_get _ _ _ (by omega)).trans ((h2.2.block W.heap.size (by omega) (by simp)).trans t5)
        · exact (gro_get _ _ _ (by omega)).trans h2.1
        · exact ((hF6.frN.same (Same.base (by simp) (Nat.le_refl _))).wide (by first | omega | (simp; omega)) (by simp))
    · obtain rfl : j = 0 := by omega
      obtain ⟨y0, y1, yf0, yf1, yl⟩ := box2 hb2.out
      go_wp2_with (fail)
      have h2 := set2 hb2.out (.slice A0 p.Stacks.Nodes.length c0) (.slice A1 p.Counts.length c1)
      have ha := box2 h2.1
      refine bodyPost_ret (v := .agg #[.slice A0 p.Stacks.Nodes.length c0, .slice A1 p.Counts.length c1]) (by simp [results, Tryz.results50, go_sem, ha]) rfl ⟨p, A0, c0, A1, c1, rfl, ⟨hpok.out, by omega, by omega⟩, hC3.only h2.2 (by simp; omega) (fun b hb => by simp at hb; omega), hS3.below (only_below h2.2 (Nat.le_refl _) yl) (Nat.le_refl _), (hF3.only h2.2 (by omega)).wide (by omega) h2.2.size⟩
set_option maxRecDepth 100000 in
set_option maxHeartbeats 8000000 in
theorem profs_s {w : World} {A : Option Addr} {n c : Nat} {xs : List UInt8} (hx : (byteT.sl 5).R w w.heap.size [.slice A n c] xs) (hl : xs.length ≤ 1099511627776) : Calls Tryz.prog 16 #[.slice A n c] w fun e W' => ∃ (p q : DProfile) (A0 : Option Addr) (c0 : Nat) (A1 : Option Addr) (c1 : Nat) (A2 : Option Addr) (c2 : Nat) (A3 : Option Addr) (c3 : Nat), e = .returned (.tuple #[.agg #[.slice A0 p.Stacks.Nodes.length c0, .slice A1 p.Counts.length c1], .agg #[.slice A2 q.Stacks.Nodes.length c2, .slice A3 q.Counts.length c3]]) ∧ dp p ∧ dp q ∧ Gro w W' ∧ tProfile.R W' W'.heap.size [.slice A0 p.Stacks.Nodes.length c0, .slice A1 p.Counts.length c1] p ∧ tProfile.R W' W'.heap.size [.slice A2 q.Stacks.Nodes.length c2, .slice A3 q.Counts.length c3] q := by
  go_enter Tryz.func16, Tryz.ntmps16
  go_wp2_with (fail)
  refine (new_s (Ty.up _ hx (by repeat (first | with_reducible exact Gro.refl _ | with_reducible exact Gro.refl_drew _ _ _ | with_reducible exact Gro.refl_drewN _ _ _ _ | assumption | with_reducible apply Gro.more | with_reducible apply Gro.alloc | with_reducible apply Gro.drew | with_reducible apply Gro.drewN))) hl).mono ?_
  rintro e W1 ⟨k, rfl, hC1⟩
  have hk1 := hC1.lt
  have hlo := hC1.lo
  simp at hlo
  have e2 : W1.heap[w.heap.size]? = some (.cells #[.slice none 0 0, .slice none 0 0] 33 (0, 0)) := (hC1.gro.block (by simp; omega)).trans ((((Gro.refl _).alloc _).block (by simp)).trans (heap_alloc_new w _))
  have e3 : W1.heap[w.heap.size + 1]? = some (.cells #[.slice none 0 0, .slice none 0 0] 33 (0, 0)) := (hC1.gro.block (by simp)).trans (by have := heap_alloc_new (w.alloc (.cells #[.slice none 0 0, .slice none 0 0] 33)) (.cells #[.slice none 0 0, .slice none 0 0] 33); simpa using this)
  go_wp2_with (fail)
  refine (prof_s hC1).mono ?_
  rintro e W2 ⟨p, A0, c0, A1, c1, rfl, hp, hC2, hS2, hF2⟩
  have hk2 := hC2.lt
  have hz2 := hS2.size
  have f2 := blk_only e2 (Gro.refl _) hS2 (by omega)
  have f3 := blk_only e3 (Gro.refl _) hS2 (by omega)
  go_wp2_with (fail)
  go_region_law (first
    | (go_simp; go_at_call 50; (with_reducible refine (prof_s (hC2.more (by (repeat (first | with_reducible exact Gro.refl _ | with_reducible exact Gro.refl_drew _ _ _ | with_reducible exact Gro.refl_drewN _ _ _ _ | assumption | with_reducible apply Gro.more | with_reducible apply Gro.alloc | with_reducible apply Gro.drew | with_reducible apply Gro.drewN)); done))).mono ?_); rintro e W3 ⟨q, A2, c2, A3, c3, rfl, hq, hC3, hS3, hF3⟩; have g2 := blk_only f2 (by repeat (first | with_reducible exact Gro.refl _ | with_reducible exact Gro.refl_drew _ _ _ | with_reducible exact Gro.refl_drewN _ _ _ _ | assumption | with_reducible apply Gro.more | with_reducible apply Gro.alloc | with_reducible apply Gro.drew | with_reducible apply Gro.drewN)) hS3 (by omega); have g3 := blk_only f3 (by repeat (first | with_reducible exact Gro.refl _ | with_reducible exact Gro.refl_drew _ _ _ | with_reducible exact Gro.refl_drewN _ _ _ _ | assumption | with_reducible apply Gro.more | with_reducible apply Gro.alloc | with_reducible apply Gro.drew | with_reducible apply Gro.drewN)) hS3 (by omega); have g5 := blk_only (heap_alloc_new W2 (.cells #[.slice A0 p.Stacks.Nodes.length c0, .slice A1 p.Counts.length c1] 33)) (by repeat (first | with_reducible exact Gro.refl _ | with_reducible exact Gro.refl_drew _ _ _ | with_reducible exact Gro.refl_drewN _ _ _ _ | assumption | with_reducible apply Gro.more | with_reducible apply Gro.alloc | with_reducible apply Gro.drew | with_reducible apply Gro.drewN)) hS3 (by omega); obtain ⟨r0, r1, rf0, rf1, rl⟩ := box2 g2; obtain ⟨s0, s1, sf0, sf1, sl⟩ := box2 g3; obtain ⟨t0, t1, tf0, tf1, tl⟩ := box2 g5; have hz3 := hS3.size; have hFp := (hF2.gro (w2 := _) (by (repeat (first | with_reducible exact Gro.refl _ | with_reducible exact Gro.refl_drew _ _ _ | with_reducible exact Gro.refl_drewN _ _ _ _ | assumption | with_reducible apply Gro.more | with_reducible apply Gro.alloc | with_reducible apply Gro.drew | with_reducible apply Gro.drewN)); done)).only hS3 (by omega)))
  all_goals go_wp2_with (fail)
  all_goals first
    | (have hne : w.heap.size ≠ w.heap.size + 1 := by omega
       have h2 := set2 g2 (.slice A0 p.Stacks.Nodes.length c0) (.slice A1 p.Counts.length c1)
       have h3 := set2 ((h2.2.block (w.heap.size + 1) (by omega) (by simp)).trans g3) (.slice A2 q.Stacks.Nodes.length c2) (.slice A3 q.Counts.length c3)
       have hx := box2 ((h3.2.block (w.heap.size) (by have := h2.2.size; omega) (by simp)).trans h2.1)
       have hy := box2 h3.1
       have hon : OnlyS [w.heap.size, w.heap.size + 1] W3 _ := (h2.2.mono (fun b hb => by simp at hb; simp [hb])).trans (h3.2.mono (fun b hb => by simp at hb; simp [hb]))
       have hwl : w.heap.size + 2 ≤ W1.heap.size := by omega
       have hpr := (hFp.onlyL hon (by intro b hb; simp at hb; omega)).read
       have hqr := (hF3.onlyL hon (by intro b hb; simp at hb; simp; omega)).read
       refine bodyPost_ret (v := .tuple #[.agg #[.slice A0 p.Stacks.Nodes.length c0, .slice A1 p.Counts.length c1], .agg #[.slice A2 q.Stacks.Nodes.length c2, .slice A3 q.Counts.length c3]]) (by simp [results, Tryz.results16, go_sem, hx, hy]) rfl ⟨p, q, A0, c0, A1, c1, A2, c2, A3, c3, rfl, hp, hq, hon.gro ?_ (by intro b hb; simp at hb; omega), hpr, hqr⟩
       exact Gro.trans ((Gro.refl w).alloc _ |>.alloc _) hC3.gro)
    | (have hne : w.heap.size ≠ w.heap.size + 1 := by omega
       have h2 := set2 g3 (.slice A2 q.Stacks.Nodes.length c2) (.slice A3 q.Counts.length c3)
       have h3 := set2 ((h2.2.block (w.heap.size) (by omega) (by simp)).trans g2) (.slice A0 p.Stacks.Nodes.length c0) (.slice A1 p.Counts.length c1)
       have hx := box2 ((h3.2.block (w.heap.size + 1) (by have := h2.2.size; omega) (by simp)).trans h2.1)
       have hy := box2 h3.1
       have hon : OnlyS [w.heap.size, w.heap.size + 1] W3 _ := (h2.2.mono (fun b hb => by simp at hb; simp [hb])).trans (h3.2.mono (fun b hb => by simp at hb; simp [hb]))
       have hwl : w.heap.size + 2 ≤ W1.heap.size := by omega
       have hpr := (hFp.onlyL hon (by intro b hb; simp at hb; omega)).read
       have hqr := (hF3.onlyL hon (by intro b hb; simp at hb; simp; omega)).read
       refine bodyPost_ret (v := .tuple #[.agg #[.slice A0 p.Stacks.Nodes.length c0, .slice A1 p.Counts.length c1], .agg #[.slice A2 q.Stacks.Nodes.length c2, .slice A3 q.Counts.length c3]]) (by simp [results, Tryz.results16, go_sem, hx, hy]) rfl ⟨p, q, A0, c0, A1, c1, A2, c2, A3, c3, rfl, hp, hq, hon.gro ?_ (by intro b hb; simp at hb; omega), hpr, hqr⟩
       exact Gro.trans ((Gro.refl w).alloc _ |>.alloc _) hC3.gro)
end Go.Proofs.YtdlkoffandhclaaGreatDoor
namespace Go.Proofs.YtdlkoffandhclaaGreatDoor
open Go.RowKit
theorem diffs_mem {p q : DProfile} (hp : profileOk p = true) (hq : profileOk q = true) {d : DDelta} (h : d ∈ diffsOf p q) : d.Before ≠ d.After ∧ ∃ e, (e ∈ entriesOf p ∨ e ∈ entriesOf q) ∧ e.Stack = d.Stack := by
  have hd : diffsOf p q = mergeD (entriesOf p) (entriesOf q) := by unfold diffsOf; rw [hp, hq]; rfl
  rw [hd] at h
  obtain ⟨h1, _, h3⟩ := (merge_ok _ _ (entriesOf_lt p) (entriesOf_lt q) d).1 h
  refine ⟨h1, ?_⟩
  unfold keyD at h3
  rcases h3 with ⟨e, he, hs⟩ | ⟨e, he, hs⟩
  · exact ⟨e, .inl he, hs⟩
  · exact ⟨e, .inr he, hs⟩
theorem stack_frs {p : DProfile} {e : DEntry} (h : e ∈ entriesOf p) : frs e ≤ p.Stacks.Nodes.length ∧ e.Stack.size ≤ 12 * p.Stacks.Nodes.length := by
  obtain ⟨k, hk⟩ := ents_mem h
  constructor
  · unfold frs
    rw [hk]
    exact Nat.le_trans (frs_fmt _) (stackAt_len _ _)
  · obtain ⟨j, hj, rfl⟩ := List.getElem_of_mem h
    exact ents_sz (List.getElem?_eq_getElem hj)
theorem frSum_bd (l : List DEntry) (k : Nat) (h : ∀ e ∈ l, frs e ≤ k) : frSum l ≤ l.length * k := by
  unfold frSum
  induction l with
  | nil => simp
  | cons a l ih =>
    have h1 := ih fun x hx => h x (List.mem_cons_of_mem _ hx)
    have h2 := h a List.mem_cons_self
    simp only [List.length_cons, List.map_cons, List.sum_cons]
    rw [Nat.add_mul]
    omega
theorem apply_frs {p q r : DProfile} (hp : profileOk p = true) (hq : profileOk q = true) (hpn : p.Stacks.Nodes.length ≤ 28) (hqn : q.Stacks.Nodes.length ≤ 28) (hrn : r.Stacks.Nodes.length ≤ 28) (hr : profileOk r = true) : frSum (keepE (diffsOf p q) (entriesOf r) ++ addE (diffsOf p q)) ≤ 5000 := by
  have h1 : ∀ e ∈ keepE (diffsOf p q) (entriesOf r) ++ addE (diffsOf p q), frs e ≤ 28 := by
    intro e he
    rcases List.mem_append.1 he with h | h
    · obtain ⟨x, hx, h2⟩ := List.mem_filterMap.1 h
      have h3 := (stack_frs hx).1
      split at h2
      · cases h2
      · injection h2 with h2
        have h4 : frs e = frs x := by unfold frs; rw [← h2]
        omega
    · obtain ⟨d, hd, h2⟩ := List.mem_filterMap.1 h
      obtain ⟨_, x, hx, hs⟩ := diffs_mem hp hq hd
      split at h2
      · injection h2 with h2
        have h4 : frs e = frs x := by unfold frs; rw [← h2, hs]
        rcases hx with hx | hx
        · have := (stack_frs hx).1; omega
        · have := (stack_frs hx).1; omega
      · cases h2
  have h2 := frSum_bd _ 28 h1
  have h3 : (keepE (diffsOf p q) (entriesOf r)).length ≤ (entriesOf r).length := List.length_filterMap_le _ _
  have h4 : (addE (diffsOf p q)).length ≤ (diffsOf p q).length := List.length_filterMap_le _ _
  have h5 := diffsOf_len p q
  have h6 := entriesOf_len r
  have h7 := pOk_len hp
  have h8 := pOk_len hq
  have h9 := pOk_len hr
  rw [List.length_append] at h2
  have h10 := Nat.mul_le_mul_right 28 (show (keepE (diffsOf p q) (entriesOf r)).length + (addE (diffsOf p q)).length ≤ 84 by omega)
  omega
theorem apply_nodes {p : DProfile} {ds : List DDelta} (h : frSum (keepE ds (entriesOf p) ++ addE ds) ≤ 5000) : (applyP p ds).1.Stacks.Nodes.length ≤ 5000 := by
  have h2 := profR_len (keepE ds (entriesOf p) ++ addE ds)
  unfold applyP
  split
  · omega
  · exact Nat.zero_le _
/-- the whole law -/
theorem diffs_all {p q : DProfile} (hp : dp p) (hq : dp q) : ∃ (d d2 : List DDelta) (r b u : DProfile), diffsOf p q = d ∧ diffsOf q p = d2 ∧ diffsOf p p = [] ∧ applyP p d = (r, true) ∧ applyP q d2 = (b, true) ∧ applyP q d = (u, decide (d = [])) ∧ sameP r q = true ∧ sameP b p = true ∧
    (∀ x ∈ d, x.Before ≠ x.After) ∧ (∀ (k : Nat) (x y : DDelta), d[k]? = some x → d[k + 1]? = some y → bl x.Stack < bl y.Stack) ∧ d.length ≤ 56 ∧ d2.length ≤ 56 ∧ (∀ x ∈ d, x.Stack.size ≤ 336) ∧ (∀ x ∈ d2, x.Stack.size ≤ 336) ∧
    frSum (keepE d (entriesOf p) ++ addE d) ≤ 5000 ∧ frSum (keepE d2 (entriesOf q) ++ addE d2) ≤ 5000 ∧ frSum (keepE d (entriesOf q) ++ addE d) ≤ 5000 ∧ r.Stacks.Nodes.length ≤ 5000 ∧ b.Stacks.Nodes.length ≤ 5000 ∧ u.Stacks.Nodes.length ≤ 5000 := by
  obtain ⟨hpo, hpt, hpn⟩ := hp
  obtain ⟨hqo, hqt, hqn⟩ := hq
  have f1 := apply_frs hpo hqo hpn hqn hpn hpo
  have f2 := apply_frs hqo hpo hqn hpn hqn hqo
  have f3 := apply_frs hpo hqo hpn hqn hqn hqo
  obtain ⟨a1, a2, a3⟩ := apply_diff hpo hqo
  obtain ⟨b1, b2, b3⟩ := apply_diff hqo hpo
  have c1 := apply_wrong hpo hqo
  have l1 := diffsOf_len p q
  have l2 := diffsOf_len q p
  have c3 := pOk_len hpo
  have c4 := pOk_len hqo
  have hz : ∀ {p q : DProfile}, profileOk p = true → profileOk q = true → p.Stacks.Nodes.length ≤ 28 → q.Stacks.Nodes.length ≤ 28 → ∀ x ∈ diffsOf p q, x.Stack.size ≤ 336 := by
    intro p q h1 h2 h3 h4 x hx
    obtain ⟨_, e, he, hs⟩ := diffs_mem h1 h2 hx
    rw [← hs]
    rcases he with he | he
    · have := (stack_frs he).2; omega
    · have := (stack_frs he).2; omega
  refine ⟨diffsOf p q, diffsOf q p, (applyP p (diffsOf p q)).1, (applyP q (diffsOf q p)).1, (applyP q (diffsOf p q)).1, rfl, rfl, diff_self hpo, by rw [← a1], by rw [← b1], by rw [← c1], ?_, ?_, fun x hx => (diffs_mem hpo hqo hx).1, fun k x y hx hy => ?_, by omega, by omega, hz hpo hqo hpn hqn, hz hqo hpo hqn hpn, f1, f2, f3, apply_nodes f1, apply_nodes f2, apply_nodes f3⟩
  · unfold sameP
    rw [a2, hqo, a3]
    simp
  · unfold sameP
    rw [b2, hpo, b3]
    simp
  · have hd : diffsOf p q = mergeD (entriesOf p) (entriesOf q) := by unfold diffsOf; rw [hpo, hqo]; rfl
    have hs := merge_sorted _ _ (entriesOf_lt p) (entriesOf_lt q)
    rw [← hd] at hs
    obtain ⟨hk, hx⟩ := List.getElem?_eq_some_iff.1 hx
    obtain ⟨hk2, hy⟩ := List.getElem?_eq_some_iff.1 hy
    have h3 := List.pairwise_iff_getElem.1 hs k (k + 1) hk hk2 (by omega)
    rw [hx, hy] at h3
    exact h3
end Go.Proofs.YtdlkoffandhclaaGreatDoor
namespace Go.Proofs.YtdlkoffandhclaaGreatDoor
open Go.RowKit
/-- a profile's box -/
structure PB (W : World) (n : Nat) (p : DProfile) (A0 : Option Addr) (c0 : Nat) (A1 : Option Addr) (c1 : Nat) : Prop where
  blk : W.heap[n]? = some (.cells #[.slice A0 p.Stacks.Nodes.length c0, .slice A1 p.Counts.length c1] 33 (0, 0))
  rd : tProfile.R W W.heap.size [.slice A0 p.Stacks.Nodes.length c0, .slice A1 p.Counts.length c1] p
theorem PB.up {W W' : World} {n : Nat} {p : DProfile} {A0 : Option Addr} {c0 : Nat} {A1 : Option Addr} {c1 : Nat} (h : PB W n p A0 c0 A1 c1) (hg : Gro W W') : PB W' n p A0 c0 A1 c1 := ⟨grow_blk h.blk hg, Ty.up _ h.rd hg⟩
theorem PB.new {X : World} {p : DProfile} {A0 : Option Addr} {c0 : Nat} {A1 : Option Addr} {c1 : Nat} (h : tProfile.R X X.heap.size [.slice A0 p.Stacks.Nodes.length c0, .slice A1 p.Counts.length c1] p) {n : Nat} (hn : X.heap.size = n) :
    PB (X.alloc (.cells #[.slice A0 p.Stacks.Nodes.length c0, .slice A1 p.Counts.length c1] 33)) n p A0 c0 A1 c1 := by
  subst hn
  exact ⟨heap_alloc_new X _, Ty.up _ h ((Gro.refl _).alloc _)⟩
theorem PB.cells {W : World} {n : Nat} {p : DProfile} {A0 : Option Addr} {c0 : Nat} {A1 : Option Addr} {c1 : Nat} (h : PB W n p A0 c0 A1 c1) : W.cell? ⟨n, 0, none⟩ = some (.slice A0 p.Stacks.Nodes.length c0) ∧ W.cell? ⟨n, 1, none⟩ = some (.slice A1 p.Counts.length c1) ∧ n < W.heap.size := by
  obtain ⟨h0, h1, _, _, h2⟩ := box2 h.blk
  exact ⟨h0, h1, h2⟩
theorem PB.nodes {W : World} {n : Nat} {p : DProfile} {A0 : Option Addr} {c0 : Nat} {A1 : Option Addr} {c1 : Nat} (h : PB W n p A0 c0 A1 c1) : (tNode.sl 92).R W W.heap.size [.slice A0 p.Stacks.Nodes.length c0] p.Stacks.Nodes := (rdProf h.rd).1
theorem PB.counts {W : World} {n : Nat} {p : DProfile} {A0 : Option Addr} {c0 : Nat} {A1 : Option Addr} {c1 : Nat} (h : PB W n p A0 c0 A1 c1) : (intT.sl 3).R W W.heap.size [.slice A1 p.Counts.length c1] p.Counts := (rdProf h.rd).2
/-- a literal list of three profiles -/
theorem three_R {W : World} {g : Nat} {p q r : DProfile} {A0 A1 A2 A3 A4 A5 : Option Addr} {c0 c1 c2 c3 c4 c5 : Nat} (hg : W.heap[g]? = some (.cells #[.slice A0 p.Stacks.Nodes.length c0, .slice A1 p.Counts.length c1, .slice A2 q.Stacks.Nodes.length c2, .slice A3 q.Counts.length c3, .slice A4 r.Stacks.Nodes.length c4, .slice A5 r.Counts.length c5] 33 (0, 0)))
    (hp : tProfile.R W W.heap.size [.slice A0 p.Stacks.Nodes.length c0, .slice A1 p.Counts.length c1] p) (hq : tProfile.R W W.heap.size [.slice A2 q.Stacks.Nodes.length c2, .slice A3 q.Counts.length c3] q) (hr : tProfile.R W W.heap.size [.slice A4 r.Stacks.Nodes.length c4, .slice A5 r.Counts.length c5] r) :
    (tProfile.sl 33).R W W.heap.size [.slice (some ⟨g, 0, none⟩) ([p, q, r] : List DProfile).length 3] [p, q, r] := by
  refine ⟨_, 3, rfl, by simp, by omega, by simp, fun _ => ⟨g, 0, rfl, (Array.getElem?_eq_some_iff.1 hg).1, fun i x hx => ?_⟩⟩
  have hc : ∀ j, W.cell? ⟨g, j, none⟩ = (#[Value.slice A0 p.Stacks.Nodes.length c0, .slice A1 p.Counts.length c1, .slice A2 q.Stacks.Nodes.length c2, .slice A3 q.Counts.length c3, .slice A4 r.Stacks.Nodes.length c4, .slice A5 r.Counts.length c5] : Array Value)[j]? := fun j => cell_of_row W g _ _ _ (0, 0) hg
  have hs : tProfile.size = 2 := rfl
  match i, hx with
  | 0, hx =>
    simp only [List.getElem?_cons_zero, Option.some.injEq] at hx
    subst hx
    refine ⟨_, hp, fun j u hu => ?_⟩
    rw [hc, hs]
    match j, hu with
    | 0, hu => simpa using hu
    | 1, hu => simpa using hu
    | j + 2, hu => simp at hu
  | 1, hx =>
    simp only [List.getElem?_cons_succ, List.getElem?_cons_zero, Option.some.injEq] at hx
    subst hx
    refine ⟨_, hq, fun j u hu => ?_⟩
    rw [hc, hs]
    match j, hu with
    | 0, hu => simpa using hu
    | 1, hu => simpa using hu
    | j + 2, hu => simp at hu
  | 2, hx =>
    simp only [List.getElem?_cons_succ, List.getElem?_cons_zero, Option.some.injEq] at hx
    subst hx
    refine ⟨_, hr, fun j u hu => ?_⟩
    rw [hc, hs]
    match j, hu with
    | 0, hu => simpa using hu
    | 1, hu => simpa using hu
    | j + 2, hu => simp at hu
  | i + 3, hx => simp at hx
end Go.Proofs.YtdlkoffandhclaaGreatDoor
namespace Go.Proofs.YtdlkoffandhclaaGreatDoor
open Go.RowKit
theorem cntE_bound {w : World} {B : Nat} {A : Option Addr} {c n : Nat} {xs : List DEntry} (hx : (tEntry.sl 48).R w B [.slice A n c] xs) (s : ByteArray) : I64 (cntE xs s) := by
  have h : ∀ l : List DEntry, (∀ e ∈ l, I64 e.Count) → I64 (cntE l s) := by
    intro l
    induction l with
    | nil => intro _; exact (show I64 0 from ⟨by decide, by decide⟩)
    | cons e l ih =>
      intro hl
      rw [cntE]
      split
      · exact hl e List.mem_cons_self
      · exact ih fun e he => hl e (List.mem_cons_of_mem _ he)
  refine h xs fun e he => ?_
  obtain ⟨k, hk, rfl⟩ := List.getElem_of_mem he
  obtain ⟨_, _, x, _, _, hxk, _, _, _, b⟩ := atEntry hx hk
  rw [List.getElem?_eq_getElem hk] at hxk
  cases hxk
  exact b
end Go.Proofs.YtdlkoffandhclaaGreatDoor
namespace Go.Proofs.YtdlkoffandhclaaGreatDoor
open Go.RowKit
theorem newC_at {ds : List DDelta} {x : DEntry} {j : Nat} {d : DDelta} (hd : ds[j]? = some d) (hn : ∀ d ∈ ds.take j, d.Stack ≠ x.Stack) (he : d.Stack = x.Stack) : newC ds x = d.After := by
  have h1 : ds.find? (fun d => decide (d.Stack = x.Stack)) = some d := by
    have h2 : ds = ds.take j ++ d :: ds.drop (j + 1) := by rw [← drop_at hd, List.take_append_drop]
    rw [h2, List.find?_append, List.find?_eq_none.2 (fun y hy => by simpa using hn y hy)]
    simp [he]
  unfold newC
  rw [h1]
theorem newC_no {ds : List DDelta} {x : DEntry} (hn : ∀ d ∈ ds, d.Stack ≠ x.Stack) : newC ds x = x.Count := by
  unfold newC
  rw [List.find?_eq_none.2 (fun y hy => by simpa using hn y hy)]
theorem keepE_snoc {ds : List DDelta} {l : List DEntry} {i : Nat} {x : DEntry} (h : l[i]? = some x) : keepE ds (l.take (i + 1)) = keepE ds (l.take i) ++ (if newC ds x = 0 then [] else [⟨x.Stack, newC ds x⟩]) := by
  unfold keepE
  rw [take_snoc h, List.filterMap_append]
  congr 1
  by_cases hz : newC ds x = 0
  · simp [hz]
  · simp [hz]
theorem addE_snoc {ds : List DDelta} {i : Nat} {d : DDelta} (h : ds[i]? = some d) : addE (ds.take (i + 1)) = addE (ds.take i) ++ (if d.Before = 0 ∧ 0 < d.After then [⟨d.Stack, d.After⟩] else []) := by
  unfold addE
  rw [take_snoc h, List.filterMap_append]
  congr 1
  by_cases hz : d.Before = 0 ∧ 0 < d.After
  · simp [hz]
  · rw [if_neg hz]
    simp only [List.filterMap_cons, if_neg hz, List.filterMap_nil]
theorem newC_64 {ds : List DDelta} {x : DEntry} (hx : I64 x.Count) (hd : ∀ d ∈ ds, I64 d.After) : I64 (newC ds x) := by
  unfold newC
  split
  · rename_i d h
    exact hd d (List.mem_of_find?_eq_some h)
  · exact hx
theorem elems_size {w : World} {B : Nat} {A : Option Addr} {n c : Nat} {e : TypeId} {ds : List DDelta} (h : (tDelta.sl e).R w B [.slice A n c] ds) : ∀ d ∈ ds, I64 d.Before ∧ I64 d.After ∧ d.Stack.size ≤ 9223372036854775807 := by
  intro d hd
  obtain ⟨k, hk, rfl⟩ := List.getElem_of_mem hd
  obtain ⟨g, off, x, _, _, h3, _, _, _, b1, b2, b3⟩ := atDelta h hk
  rw [List.getElem?_eq_getElem hk] at h3
  injection h3 with h3
  rw [h3]
  exact ⟨b2, b3, b1⟩
set_option maxRecDepth 100000 in
set_option maxHeartbeats 2000000 in
theorem countI_i {xs : List DEntry} {s : ByteArray} {w : World} {A : Option Addr} {c : Nat} (hx : (tEntry.sl 48).R w w.heap.size [.slice A xs.length c] xs) :
    Calls Tryz.prog 59 #[.slice A xs.length c, .string s] w fun e w' => e = .returned (.int .i64 (cntE xs s)) ∧ Gro w w' := by
  obtain ⟨_, _, hv, h1, h2⟩ := sl_at hx
  injection hv with q1 _ q2
  subst q1 q2
  go_enter Tryz.func59, Tryz.ntmps59
  go_wp2_with (fail)
  go_loopw [9] (fun i wr => ∃ k : Nat, k ≤ xs.length ∧ i = .int .i64 k ∧ Hid (Gro w wr) ∧ Hid (cntE (xs.drop k) s = cntE xs s)) (fun i _ => xs.length - (intOf i).toNat)
  case atStart => exact ⟨0, Nat.zero_le _, rfl, Gro.refl _, Lib.hid (by simp)⟩
  case round =>
    obtain ⟨k, hk, rfl, hG, HT⟩ := hrel
    obtain ⟨os, d, rfl⟩ := hG.out
    clear hG
    by_cases hlt : k < xs.length
    · obtain ⟨g, off, x, rfl, hgb, hxk, hx0, hx1, bx0, bx1⟩ := atEntry hx hlt
      have HX := Lib.hid (show xs.drop k = x :: xs.drop (k + 1) from by
        obtain ⟨hl, rfl⟩ := List.getElem?_eq_some_iff.1 hxk
        exact List.drop_eq_getElem_cons hl)
      have hi1 : (k : Int) < (xs.length : Int) := by omega
      clear hxk hx
      by_cases hs : x.Stack = s
      · have hsb : (x.Stack.toList == s.toList) = true := by rw [str_eqb]; simp [hs]
        have HR := Lib.hid (show cntE xs s = x.Count from by rw [← HT.out, HX.out, cntE, if_pos hs])
        clear hs
        go_wp2_with (fail)
        go_ret
        exact ⟨ret_int HR.out.symm, (by repeat (first | with_reducible exact Gro.refl _ | with_reducible exact Gro.refl_drew _ _ _ | with_reducible exact Gro.refl_drewN _ _ _ _ | assumption | with_reducible apply Gro.more | with_reducible apply Gro.alloc | with_reducible apply Gro.drew | with_reducible apply Gro.drewN))⟩
      · have hsb : (x.Stack.toList == s.toList) = false := by rw [str_eqb]; simp [hs]
        have HR := Lib.hid (show cntE (xs.drop (k + 1)) s = cntE xs s from by rw [← HT.out, HX.out, cntE, if_neg hs])
        clear hs
        go_wp2_with (fail)
        go_roundw
        case rel => exact ⟨k + 1, by omega, by go_num, Lib.hid (by repeat (first | with_reducible exact Gro.refl _ | with_reducible exact Gro.refl_drew _ _ _ | with_reducible exact Gro.refl_drewN _ _ _ _ | assumption | with_reducible apply Gro.more | with_reducible apply Gro.alloc | with_reducible apply Gro.drew | with_reducible apply Gro.drewN)), HR⟩
        case measure => simp [intOf]; omega
    · have hke : k = xs.length := by omega
      subst hke
      have HR := Lib.hid (show cntE xs s = 0 from by rw [← HT.out]; simp [cntE])
      go_wp2_with (fail)
      go_ret
      exact ⟨ret_int HR.out.symm, (by repeat (first | with_reducible exact Gro.refl _ | with_reducible exact Gro.refl_drew _ _ _ | with_reducible exact Gro.refl_drewN _ _ _ _ | assumption | with_reducible apply Gro.more | with_reducible apply Gro.alloc | with_reducible apply Gro.drew | with_reducible apply Gro.drewN))⟩
set_option maxRecDepth 100000 in
set_option maxHeartbeats 8000000 in
theorem apply_i {p : DProfile} {ds : List DDelta} {m : Int} {w : World} {A0 A1 A2 : Option Addr} {c0 c1 c2 : Nat} (hx : (tNode.sl 92).R w w.heap.size [.slice A0 p.Stacks.Nodes.length c0] p.Stacks.Nodes) (hy : (intT.sl 3).R w w.heap.size [.slice A1 p.Counts.length c1] p.Counts) (hd : (tDelta.sl 55).R w w.heap.size [.slice A2 ds.length c2] ds) (hn : p.Stacks.Nodes.length ≤ 16777216) (hdl : ds.length ≤ 1000000) (hdz : ∀ d ∈ ds, d.Stack.size ≤ 1073741824) (hfr : frSum (keepE ds (entriesOf p) ++ addE ds) ≤ 500000000000) (hlen : w.cell? ⟨0, 0, none⟩ = some (.int .i64 m)) :
    Calls Tryz.prog 23 #[.agg #[.slice A0 p.Stacks.Nodes.length c0, .slice A1 p.Counts.length c1], .slice A2 ds.length c2] w (RetProfileBool (applyP p ds) w) := by
  have HM := Lib.hid hlen
  clear hlen
  cases hp : profileOk p
  · have HR := Lib.hid (show applyP p ds = (emptyP, false) from by simp [applyP, hp])
    have HP := Lib.hid hp
    clear hp
    go_enter Tryz.func23, Tryz.ntmps23
    go_wp2_with (go_at_call 41; (with_reducible refine (profileOk_i (p := p) (Ty.up _ hx (by repeat (first | with_reducible exact Gro.refl _ | with_reducible exact Gro.refl_drew _ _ _ | with_reducible exact Gro.refl_drewN _ _ _ _ | assumption | with_reducible apply Gro.more | with_reducible apply Gro.alloc | with_reducible apply Gro.drew | with_reducible apply Gro.drewN))) (Ty.up _ hy (by repeat (first | with_reducible exact Gro.refl _ | with_reducible exact Gro.refl_drew _ _ _ | with_reducible exact Gro.refl_drewN _ _ _ _ | assumption | with_reducible apply Gro.more | with_reducible apply Gro.alloc | with_reducible apply Gro.drew | with_reducible apply Gro.drewN)))).mono ?_); rw [HP.out]; rintro e w1 ⟨rfl, os1, d1, rfl⟩)
    refine bodyPost_ret (v := .tuple #[.agg #[.slice none 0 0, .slice none 0 0], .bool false]) (by simp [results, Tryz.results23, go_sem]) rfl (ret_profile_bool HR.out (fresh_emptyP _ _) (by repeat (first | with_reducible exact Gro.refl _ | with_reducible exact Gro.refl_drew _ _ _ | with_reducible exact Gro.refl_drewN _ _ _ _ | assumption | with_reducible apply Gro.more | with_reducible apply Gro.alloc | with_reducible apply Gro.drew | with_reducible apply Gro.drewN)))
  have hll := entriesOf_len p
  have hcl := Nat.le_of_eq (pOk_len hp)
  have hn2 : p.Stacks.Nodes.length ≤ 1099511627776 := by omega
  have HES := Lib.hid (show ∀ e ∈ entriesOf p, e.Stack.size ≤ 12 * p.Stacks.Nodes.length from fun e he => by
    obtain ⟨k, hk, rfl⟩ := List.getElem_of_mem he
    exact ents_sz (List.getElem?_eq_getElem hk))
  have HDS := Lib.hid hdz
  have HD64 := Lib.hid (elems_size hd)
  obtain ⟨l, hl⟩ : ∃ l, entriesOf p = l := ⟨_, rfl⟩
  rw [hl] at hll hfr
  have HL := Lib.hid hl
  have HFR := Lib.hid hfr
  have HP := Lib.hid hp
  have HAP := Lib.hid (show diffFits p ds = true → applyP p ds = profR (keepE ds l ++ addE ds) from fun h => by simp [applyP, hp, h, hl])
  have HAN := Lib.hid (show diffFits p ds = false → applyP p ds = (emptyP, false) from fun h => by simp [applyP, h])
  clear hp hl hdz hfr
  obtain ⟨_, _, hvd, hdc, hdm⟩ := sl_at hd
  injection hvd with q1 _ q2
  subst q1 q2
  go_enter Tryz.func23, Tryz.ntmps23
  go_wp2_with (first
    | (go_at_call 41; (with_reducible refine (profileOk_i (p := p) (Ty.up _ hx (by repeat (first | with_reducible exact Gro.refl _ | with_reducible exact Gro.refl_drew _ _ _ | with_reducible exact Gro.refl_drewN _ _ _ _ | assumption | with_reducible apply Gro.more | with_reducible apply Gro.alloc | with_reducible apply Gro.drew | with_reducible apply Gro.drewN))) (Ty.up _ hy (by repeat (first | with_reducible exact Gro.refl _ | with_reducible exact Gro.refl_drew _ _ _ | with_reducible exact Gro.refl_drewN _ _ _ _ | assumption | with_reducible apply Gro.more | with_reducible apply Gro.alloc | with_reducible apply Gro.drew | with_reducible apply Gro.drewN)))).mono ?_); rw [HP.out]; rintro e w1 ⟨rfl, os1, d1, rfl⟩)
    | (go_at_call 17; (with_reducible refine (entriesOf_i (p := p) (Ty.up _ hx (by repeat (first | with_reducible exact Gro.refl _ | with_reducible exact Gro.refl_drew _ _ _ | with_reducible exact Gro.refl_drewN _ _ _ _ | assumption | with_reducible apply Gro.more | with_reducible apply Gro.alloc | with_reducible apply Gro.drew | with_reducible apply Gro.drewN))) (Ty.up _ hy (by repeat (first | with_reducible exact Gro.refl _ | with_reducible exact Gro.refl_drew _ _ _ | with_reducible exact Gro.refl_drewN _ _ _ _ | assumption | with_reducible apply Gro.more | with_reducible apply Gro.alloc | with_reducible apply Gro.drew | with_reducible apply Gro.drewN))) hn2).mono ?_); rw [HL.out]; rintro e w3 ⟨B3, b3, rfl, hF3, os3, d3, rfl⟩))
  have hRl := hF3.read
  have hRd := Ty.up _ hd (show Gro w (gro (gro ((w.alloc (.cells #[.slice A0 p.Stacks.Nodes.length c0, .slice A1 p.Counts.length c1] 33)).alloc (.cells #[.slice none 0 0, .slice none 0 0] 33)) os1 d1) os3 d3) from (by repeat (first | with_reducible exact Gro.refl _ | with_reducible exact Gro.refl_drew _ _ _ | with_reducible exact Gro.refl_drewN _ _ _ _ | assumption | with_reducible apply Gro.more | with_reducible apply Gro.alloc | with_reducible apply Gro.drew | with_reducible apply Gro.drewN)))
  have hGZ : Gro ((w.alloc (.cells #[.slice A0 p.Stacks.Nodes.length c0, .slice A1 p.Counts.length c1] 33)).alloc (.cells #[.slice none 0 0, .slice none 0 0] 33)) (gro (gro ((w.alloc (.cells #[.slice A0 p.Stacks.Nodes.length c0, .slice A1 p.Counts.length c1] 33)).alloc (.cells #[.slice none 0 0, .slice none 0 0] 33)) os1 d1) os3 d3) := (by repeat (first | with_reducible exact Gro.refl _ | with_reducible exact Gro.refl_drew _ _ _ | with_reducible exact Gro.refl_drewN _ _ _ _ | assumption | with_reducible apply Gro.more | with_reducible apply Gro.alloc | with_reducible apply Gro.drew | with_reducible apply Gro.drewN))
  obtain ⟨V0, hV0⟩ : ∃ V0, gro (gro ((w.alloc (.cells #[.slice A0 p.Stacks.Nodes.length c0, .slice A1 p.Counts.length c1] 33)).alloc (.cells #[.slice none 0 0, .slice none 0 0] 33)) os1 d1) os3 d3 = V0 := ⟨_, rfl⟩
  rw [hV0] at hRl hRd hGZ ⊢
  have er : V0.heap[w.heap.size + 1]? = some (.cells #[.slice none 0 0, .slice none 0 0] 33 (0, 0)) := grow_blk (by have h := heap_alloc_new (w.alloc (.cells #[.slice A0 p.Stacks.Nodes.length c0, .slice A1 p.Counts.length c1] 33)) (.cells #[.slice none 0 0, .slice none 0 0] 33); simpa using h) hGZ
  have hGV : Gro w V0 := Gro.trans (by (repeat (first | with_reducible exact Gro.refl _ | with_reducible exact Gro.refl_drew _ _ _ | with_reducible exact Gro.refl_drewN _ _ _ _ | assumption | with_reducible apply Gro.more | with_reducible apply Gro.alloc | with_reducible apply Gro.drew | with_reducible apply Gro.drewN)); done) hGZ
  clear hF3 hV0
  go_loopw [24] (fun a wr => ∃ (k : Nat), a = .int .i64 k ∧ k ≤ ds.length ∧ Hid (Gro V0 wr) ∧ Hid (∀ d ∈ ds.take k, d.Before = cntE l d.Stack)) (fun a _ => ds.length - (intOf a).toNat)
  case atStart => exact ⟨0, rfl, by omega, Lib.hid (Gro.refl _), Lib.hid (by simp)⟩
  case round =>
    obtain ⟨k, rfl, hk, hG, hall⟩ := hrel
    obtain ⟨os, d, rfl⟩ := hG.out
    clear hG
    by_cases hlt : k < ds.length
    · obtain ⟨gd, offd, x, hAe, hgb, hxk, hx0, hx1, hx2, bx0, bx1, bx2⟩ := atDelta hRd hlt
      subst hAe
      have hki : (k : Int) < (ds.length : Int) := by omega
      have HX := Lib.hid hxk
      obtain ⟨cv, hcv⟩ : ∃ cv, cntE l x.Stack = cv := ⟨_, rfl⟩
      have HCV := Lib.hid hcv
      clear hxk
      by_cases he : x.Before = cv
      · have heb : (x.Before != cv) = false := by simp [he]
        have HA := Lib.hid (show ∀ d ∈ ds.take (k + 1), d.Before = cntE l d.Stack from fun d hd => by
          rw [take_snoc HX.out] at hd
          rcases List.mem_append.1 hd with h | h
          · exact hall.out d h
          · rw [List.mem_singleton] at h
            subst h
            rw [he, hcv])
        clear he hcv
        go_wp2_with (fail)
        first | (go_region_held3 (fun w' => w'.cell? ⟨V0.heap.size + os.size, 0, none⟩ = some (.string x.Stack) ∧ w'.cell? ⟨V0.heap.size + os.size, 1, none⟩ = some (.int .i64 x.Before)) ((repeat' apply And.intro) <;> (first | ((repeat (first | assumption | with_reducible refine gro_keeps ?_ _ _ | with_reducible refine alloc_keeps ?_ _ | with_reducible refine drew_keeps ?_)); done) | (simp [go_sem]; done))) (first
          | (go_at_call 59; (with_reducible refine (countI_i (xs := l) (s := x.Stack) (Ty.up _ hRl (by (repeat (first | with_reducible exact Gro.refl _ | with_reducible exact Gro.refl_drew _ _ _ | with_reducible exact Gro.refl_drewN _ _ _ _ | assumption | with_reducible apply Gro.more | with_reducible apply Gro.alloc | with_reducible apply Gro.drew | with_reducible apply Gro.drewN)); done))).mono ?_); rw [HCV.out]; rintro e w5 ⟨rfl, os5, d5, rfl⟩)
          | fail)) | fail
        go_wp2_with (fail)
        go_roundw
        case rel => exact ⟨k + 1, by go_num, by omega, Lib.hid (by repeat (first | with_reducible exact Gro.refl _ | with_reducible exact Gro.refl_drew _ _ _ | with_reducible exact Gro.refl_drewN _ _ _ _ | assumption | with_reducible apply Gro.more | with_reducible apply Gro.alloc | with_reducible apply Gro.drew | with_reducible apply Gro.drewN)), HA⟩
        case measure => simp [intOf]; omega
      · have heb : (x.Before != cv) = true := by simp [he]
        have HR := Lib.hid (show applyP p ds = (emptyP, false) from HAN.out (by
          unfold diffFits
          rw [HL.out]
          exact all_false HX.out (decide_eq_false (by rw [hcv]; exact he))))
        obtain ⟨r0, r1, rf0, rf1, rl⟩ := box2 er
        clear he hcv
        go_wp2_with (fail)
        first | (go_region_held3 (fun w' => w'.cell? ⟨V0.heap.size + os.size, 0, none⟩ = some (.string x.Stack) ∧ w'.cell? ⟨V0.heap.size + os.size, 1, none⟩ = some (.int .i64 x.Before)) ((repeat' apply And.intro) <;> (first | ((repeat (first | assumption | with_reducible refine gro_keeps ?_ _ _ | with_reducible refine alloc_keeps ?_ _ | with_reducible refine drew_keeps ?_)); done) | (simp [go_sem]; done))) (first
          | (go_at_call 59; (with_reducible refine (countI_i (xs := l) (s := x.Stack) (Ty.up _ hRl (by (repeat (first | with_reducible exact Gro.refl _ | with_reducible exact Gro.refl_drew _ _ _ | with_reducible exact Gro.refl_drewN _ _ _ _ | assumption | with_reducible apply Gro.more | with_reducible apply Gro.alloc | with_reducible apply Gro.drew | with_reducible apply Gro.drewN)); done))).mono ?_); rw [HCV.out]; rintro e w5 ⟨rfl, os5, d5, rfl⟩)
          | fail)) | fail
        go_wp2_with (fail)
        have h2 := set2 er (.slice none 0 0) (.slice none 0 0)
        have hz2 := box2 h2.1
        refine bodyPost_ret (v := .tuple #[.agg #[.slice none 0 0, .slice none 0 0], .bool false]) (by simp [results, Tryz.results23, go_sem, hz2, rl]) rfl (ret_profile_bool HR.out (fresh_emptyP _ _) ((h2.2.gro hGV (fun b hb => by simp at hb; omega)).trans (by (repeat (first | with_reducible exact Gro.refl _ | with_reducible exact Gro.refl_drew _ _ _ | with_reducible exact Gro.refl_drewN _ _ _ _ | assumption | with_reducible apply Gro.more | with_reducible apply Gro.alloc | with_reducible apply Gro.drew | with_reducible apply Gro.drewN)); done)))
    · obtain rfl : k = ds.length := by omega
      have HR := Lib.hid (HAP.out (by
        unfold diffFits
        rw [HL.out, List.all_eq_true]
        intro d hd
        have := hall.out d (by rw [List.take_length]; exact hd)
        simpa using this))
      have hRl1 := Ty.up _ hRl (Gro.of V0 os d)
      have hRd1 := Ty.up _ hRd (Gro.of V0 os d)
      have hGZ1 := hGZ.trans (Gro.of V0 os d)
      generalize hV1 : gro V0 os d = V1 at hRl1 hRd1 hGZ1 ⊢
      clear hV1 hall HAN HAP
      go_wp2_with (fail)
      go_loopw [9, 40] (fun a b wr => ∃ (i : Nat) (acc : List DEntry) (Ao : Option Addr) (co : Nat) (So : List Nat), a = .slice Ao acc.length co ∧ b = .int .i64 i ∧ i ≤ l.length ∧ Hid (acc = keepE ds (l.take i)) ∧ acc.length ≤ i ∧ Gro V1 wr ∧ Has (tEntry.sl 48) wr [.slice Ao acc.length co] acc So ∧ (∀ b ∈ So, V1.heap.size ≤ b)) (fun _ b _ => l.length - (intOf b).toNat)
      case atStart => exact ⟨0, [], _, 0, [V1.heap.size], rfl, rfl, by omega, Lib.hid (by simp [keepE]), by simp, (by repeat (first | with_reducible exact Gro.refl _ | with_reducible exact Gro.refl_drew _ _ _ | with_reducible exact Gro.refl_drewN _ _ _ _ | assumption | with_reducible apply Gro.more | with_reducible apply Gro.alloc | with_reducible apply Gro.drew | with_reducible apply Gro.drewN)), Has.emp _ (heap_alloc_new V1 _), by simp⟩
      case round =>
        obtain ⟨i, acc, Ao, co, So, rfl, rfl, hi, hac, hal, hG, hO, hol⟩ := hrel
        obtain ⟨U, hU⟩ : ∃ U, U = wr := ⟨_, rfl⟩
        subst hU
        have hRlw := Ty.up _ hRl1 hG
        have hRdw := Ty.up _ hRd1 hG
        by_cases hlt : i < l.length
        · obtain ⟨gl, offl, x, hAe, hgb, hxk, hx0, hx1, bx0, bx1⟩ := atEntry hRlw hlt
          subst hAe
          have hki : (i : Int) < (l.length : Int) := by omega
          have HX := Lib.hid hxk
          have hsx : x.Stack.size ≤ 1073741824 := by have := HES.out x (by rw [HL.out]; exact List.mem_of_getElem? hxk); omega
          have HNI := Lib.hid (newC_64 (ds := ds) bx1 (fun d hd => (HD64.out d hd).2.1))
          clear hxk
          go_wp2_with (fail)
          have ege := heap_alloc_new U (.cells #[.string x.Stack, .int .i64 x.Count] 48)
          have hGe : Gro U (U.alloc (.cells #[.string x.Stack, .int .i64 x.Count] 48)) := (by repeat (first | with_reducible exact Gro.refl _ | with_reducible exact Gro.refl_drew _ _ _ | with_reducible exact Gro.refl_drewN _ _ _ _ | assumption | with_reducible apply Gro.more | with_reducible apply Gro.alloc | with_reducible apply Gro.drew | with_reducible apply Gro.drewN))
          go_loopw [46] (fun a wr => ∃ (j : Nat), a = .int .i64 j ∧ j ≤ ds.length ∧ Hid (Gro U wr) ∧ Hid (wr.heap[U.heap.size]? = some (.cells #[.string x.Stack, .int .i64 x.Count] 48 (0, 0))) ∧ Hid (∀ d ∈ ds.take j, d.Stack ≠ x.Stack)) (fun a _ => ds.length - (intOf a).toNat)
          case atStart => exact ⟨0, rfl, by omega, Lib.hid hGe, Lib.hid ege, Lib.hid (by simp)⟩
          case round =>
            obtain ⟨j, rfl, hj, hGw, hbx, hno⟩ := hrel
            have hRde := Ty.up _ hRdw hGw.out
            have hwe := hGw.out.size
            have hge : U.heap.size < wr.heap.size := (Array.getElem?_eq_some_iff.1 hbx.out).1
            have hV1 := hG.size
            obtain ⟨y0, y1, yf0, yf1, _⟩ := box2 hbx.out
            have hGb0 := hG.trans hGw.out
            have hHb0 := hO.gro hGw.out
            by_cases hjl : j < ds.length
            · obtain ⟨gd, offd, dd, hAe, hgb2, hdk, hd0, hd1, hd2, bd0, bd1, bd2⟩ := atDelta hRde hjl
              subst hAe
              have hji : (j : Int) < (ds.length : Int) := by omega
              have HDK := Lib.hid hdk
              by_cases he : dd.Stack = x.Stack
              · have hsb : (dd.Stack.toList == x.Stack.toList) = true := by rw [str_eqb]; simp [he]
                have HNC := Lib.hid (newC_at hdk hno.out he)
                rw [HNC.out] at HNI
                have hGb : Gro V1 (wr.setCell ⟨U.heap.size, 1, none⟩ (.int .i64 dd.After)) := hGb0.setRow (p := ⟨U.heap.size, 1, none⟩) (by simpa using hV1) _
                have hHb := hHb0.keep (W' := wr.setCell ⟨U.heap.size, 1, none⟩ (.int .i64 dd.After)) (L := [U.heap.size]) ((OnlyS.refl _ _).setCell (p := ⟨U.heap.size, 1, none⟩) (by simp) _) (fun b hb hm => by have := hO.lt b hb; simp at hm; omega)
                clear he hdk hGb0 hHb0
                by_cases hz : dd.After = 0
                · have HK := Lib.hid (show acc = keepE ds (l.take (i + 1)) from by rw [keepE_snoc HX.out, HNC.out, if_pos hz, List.append_nil]; exact hac.out)
                  have hzb : (dd.After != 0) = false := by simp [hz]
                  try rw [hz] at hGb hHb
                  go_wp2_with (fail)
                  go_roundw
                  case rel => exact ⟨i + 1, acc, Ao, co, So, rfl, by go_num, by omega, HK, by omega, hGb.trans (by (repeat (first | with_reducible exact Gro.refl _ | with_reducible exact Gro.refl_drew _ _ _ | with_reducible exact Gro.refl_drewN _ _ _ _ | assumption | with_reducible apply Gro.more | with_reducible apply Gro.alloc | with_reducible apply Gro.drew | with_reducible apply Gro.drewN)); done), hHb.gro (by (repeat (first | with_reducible exact Gro.refl _ | with_reducible exact Gro.refl_drew _ _ _ | with_reducible exact Gro.refl_drewN _ _ _ _ | assumption | with_reducible apply Gro.more | with_reducible apply Gro.alloc | with_reducible apply Gro.drew | with_reducible apply Gro.drewN)); done), hol⟩
                  case measure => simp [intOf]; omega
                · have HK := Lib.hid (show acc ++ [⟨x.Stack, dd.After⟩] = keepE ds (l.take (i + 1)) from by rw [keepE_snoc HX.out, HNC.out, if_neg hz, hac.out])
                  have hzb : (dd.After != 0) = true := by simp [hz]
                  go_wp2_with (((refine wpList_append_hasf (L := acc.length + 1) (y := (⟨x.Stack, dd.After⟩ : DEntry)) rfl (.tmp 62) (.tmp 64) elEntry flatEntry (S := So) (hHb.gro (by (repeat (first | with_reducible exact Gro.refl _ | with_reducible exact Gro.refl_drew _ _ _ | with_reducible exact Gro.refl_drewN _ _ _ _ | assumption | with_reducible apply Gro.more | with_reducible apply Gro.alloc | with_reducible apply Gro.drew | with_reducible apply Gro.drewN)); done)) (ec := [.string x.Stack, .int .i64 dd.After]) (W1 := w) (B := 0) (tEntry_mkR (x := ⟨x.Stack, dd.After⟩) bx0 HNI.out) rfl rfl rfl (by intro j u hu; simpa [go_sem] using hu) rfl (by omega) (by omega) ?_)); intro A7 c7 W7 S7 hon hH7 hS7)
                  go_roundw
                  case rel =>
                    have hGW : Gro V1 W7 := hon.gro (hGb.trans (by (repeat (first | with_reducible exact Gro.refl _ | with_reducible exact Gro.refl_drew _ _ _ | with_reducible exact Gro.refl_drewN _ _ _ _ | assumption | with_reducible apply Gro.more | with_reducible apply Gro.alloc | with_reducible apply Gro.drew | with_reducible apply Gro.drewN)); done)) hol
                    have hgz := hGb.size
                    refine ⟨i + 1, acc ++ [⟨x.Stack, dd.After⟩], A7, c7, S7, by rw [List.length_append]; rfl, by go_num, by omega, HK, by rw [List.length_append]; simp; omega, hGW, by rw [List.length_append]; exact hH7, fun b hb => ?_⟩
                    rcases hS7 b hb with h | h
                    · exact hol b h
                    · simp at h; omega
                  case measure => simp [intOf]; omega
              · have hsb : (dd.Stack.toList == x.Stack.toList) = false := by rw [str_eqb]; simp [he]
                have HNO := Lib.hid (show ∀ d ∈ ds.take (j + 1), d.Stack ≠ x.Stack from fun d hd => by
                  rw [take_snoc HDK.out] at hd
                  rcases List.mem_append.1 hd with h | h
                  · exact hno.out d h
                  · rw [List.mem_singleton] at h
                    subst h
                    exact he)
                clear he hdk
                go_wp2_with (fail)
                go_roundw
                case rel => exact ⟨j + 1, by go_num, by omega, Lib.hid (hGw.out.trans (by (repeat (first | with_reducible exact Gro.refl _ | with_reducible exact Gro.refl_drew _ _ _ | with_reducible exact Gro.refl_drewN _ _ _ _ | assumption | with_reducible apply Gro.more | with_reducible apply Gro.alloc | with_reducible apply Gro.drew | with_reducible apply Gro.drewN)); done)), Lib.hid (grow_blk hbx.out (by (repeat (first | with_reducible exact Gro.refl _ | with_reducible exact Gro.refl_drew _ _ _ | with_reducible exact Gro.refl_drewN _ _ _ _ | assumption | with_reducible apply Gro.more | with_reducible apply Gro.alloc | with_reducible apply Gro.drew | with_reducible apply Gro.drewN)); done)), HNO⟩
                case measure => simp [intOf]; omega
            · obtain rfl : j = ds.length := by omega
              have HNC := Lib.hid (newC_no (ds := ds) (x := x) (fun d hd => hno.out d (by rw [List.take_length]; exact hd)))
              rw [HNC.out] at HNI
              have hGb := hGb0
              have hHb := hHb0
              clear hGb0 hHb0
              by_cases hz : x.Count = 0
              · have HK := Lib.hid (show acc = keepE ds (l.take (i + 1)) from by rw [keepE_snoc HX.out, HNC.out, if_pos hz, List.append_nil]; exact hac.out)
                have hzb : (x.Count != 0) = false := by simp [hz]
                try rw [hz] at hGb hHb
                go_wp2_with (fail)
                go_roundw
                case rel => exact ⟨i + 1, acc, Ao, co, So, rfl, by go_num, by omega, HK, by omega, hGb.trans (by (repeat (first | with_reducible exact Gro.refl _ | with_reducible exact Gro.refl_drew _ _ _ | with_reducible exact Gro.refl_drewN _ _ _ _ | assumption | with_reducible apply Gro.more | with_reducible apply Gro.alloc | with_reducible apply Gro.drew | with_reducible apply Gro.drewN)); done), hHb.gro (by (repeat (first | with_reducible exact Gro.refl _ | with_reducible exact Gro.refl_drew _ _ _ | with_reducible exact Gro.refl_drewN _ _ _ _ | assumption | with_reducible apply Gro.more | with_reducible apply Gro.alloc | with_reducible apply Gro.drew | with_reducible apply Gro.drewN)); done), hol⟩
                case measure => simp [intOf]; omega
              · have HK := Lib.hid (show acc ++ [⟨x.Stack, x.Count⟩] = keepE ds (l.take (i + 1)) from by rw [keepE_snoc HX.out, HNC.out, if_neg hz, hac.out])
                have hzb : (x.Count != 0) = true := by simp [hz]
                go_wp2_with (((refine wpList_append_hasf (L := acc.length + 1) (y := (⟨x.Stack, x.Count⟩ : DEntry)) rfl (.tmp 62) (.tmp 64) elEntry flatEntry (S := So) (hHb.gro (by (repeat (first | with_reducible exact Gro.refl _ | with_reducible exact Gro.refl_drew _ _ _ | with_reducible exact Gro.refl_drewN _ _ _ _ | assumption | with_reducible apply Gro.more | with_reducible apply Gro.alloc | with_reducible apply Gro.drew | with_reducible apply Gro.drewN)); done)) (ec := [.string x.Stack, .int .i64 x.Count]) (W1 := w) (B := 0) (tEntry_mkR (x := ⟨x.Stack, x.Count⟩) bx0 HNI.out) rfl rfl rfl (by intro j u hu; simpa [go_sem] using hu) rfl (by omega) (by omega) ?_)); intro A7 c7 W7 S7 hon hH7 hS7)
                go_roundw
                case rel =>
                  have hGW : Gro V1 W7 := hon.gro (hGb.trans (by (repeat (first | with_reducible exact Gro.refl _ | with_reducible exact Gro.refl_drew _ _ _ | with_reducible exact Gro.refl_drewN _ _ _ _ | assumption | with_reducible apply Gro.more | with_reducible apply Gro.alloc | with_reducible apply Gro.drew | with_reducible apply Gro.drewN)); done)) hol
                  have hgz := hGb.size
                  refine ⟨i + 1, acc ++ [⟨x.Stack, x.Count⟩], A7, c7, S7, by rw [List.length_append]; rfl, by go_num, by omega, HK, by rw [List.length_append]; simp; omega, hGW, by rw [List.length_append]; exact hH7, fun b hb => ?_⟩
                  rcases hS7 b hb with h | h
                  · exact hol b h
                  · simp at h; omega
                case measure => simp [intOf]; omega
        · obtain rfl : i = l.length := by omega
          rw [List.take_length] at hac
          have hal2 : acc.length ≤ l.length := hal
          clear hlt hal hi
          go_wp2_with (fail)
          go_loopw [9, 69] (fun a b wr => ∃ (j : Nat) (ac2 : List DEntry) (Ao : Option Addr) (co : Nat) (So : List Nat), a = .slice Ao ac2.length co ∧ b = .int .i64 j ∧ j ≤ ds.length ∧ Hid (ac2 = keepE ds l ++ addE (ds.take j)) ∧ ac2.length ≤ l.length + j ∧ Gro V1 wr ∧ Has (tEntry.sl 48) wr [.slice Ao ac2.length co] ac2 So ∧ (∀ b ∈ So, V1.heap.size ≤ b)) (fun _ b _ => ds.length - (intOf b).toNat)
          case atStart => exact ⟨0, acc, Ao, co, So, rfl, rfl, by omega, Lib.hid (by rw [hac.out]; simp [addE]), by omega, hG, hO, hol⟩
          case round =>
            clear hG hO hol hac hal2 hRlw hRdw
            obtain ⟨j, ac2, Ao, co, So, rfl, rfl, hj, hac, hal, hG, hO, hol⟩ := hrel
            have hRdw := Ty.up _ hRd1 hG
            have hV1 := hG.size
            by_cases hlt : j < ds.length
            · obtain ⟨gd, offd, dd, hAe, hgb2, hdk, hd0, hd1, hd2, bd0, bd1, bd2⟩ := atDelta hRdw hlt
              subst hAe
              have hji : (j : Int) < (ds.length : Int) := by omega
              have HDK := Lib.hid hdk
              have hds := HDS.out dd (List.mem_of_getElem? hdk)
              clear hdk
              by_cases hz : dd.Before = 0 ∧ 0 < dd.After
              · have HK := Lib.hid (show ac2 ++ [⟨dd.Stack, dd.After⟩] = keepE ds l ++ addE (ds.take (j + 1)) from by rw [addE_snoc HDK.out, if_pos hz, ← List.append_assoc, ← hac.out])
                obtain ⟨hz1, hz2⟩ := hz
                have hz3 : decide (0 < dd.After) = true := decide_eq_true hz2
                have hz4 : (dd.Before == 0) = true := by simp [hz1]
                have hdaf : I64 dd.After := bd2
                clear hz1
                go_wp2_with (((refine wpList_append_hasf (L := ac2.length + 1) (y := (⟨dd.Stack, dd.After⟩ : DEntry)) rfl (.tmp 81) (.tmp 87) elEntry flatEntry (S := So) (hO.gro (by (repeat (first | with_reducible exact Gro.refl _ | with_reducible exact Gro.refl_drew _ _ _ | with_reducible exact Gro.refl_drewN _ _ _ _ | assumption | with_reducible apply Gro.more | with_reducible apply Gro.alloc | with_reducible apply Gro.drew | with_reducible apply Gro.drewN)); done)) (ec := [.string dd.Stack, .int .i64 dd.After]) (W1 := w) (B := 0) (tEntry_mkR (x := ⟨dd.Stack, dd.After⟩) bd0 hdaf) rfl rfl rfl (by intro j u hu; simpa [go_sem] using hu) rfl (by omega) (by omega) ?_)); intro A7 c7 W7 S7 hon hH7 hS7)
                go_roundw
                case rel =>
                  have hGW : Gro V1 W7 := hon.gro (hG.trans (by (repeat (first | with_reducible exact Gro.refl _ | with_reducible exact Gro.refl_drew _ _ _ | with_reducible exact Gro.refl_drewN _ _ _ _ | assumption | with_reducible apply Gro.more | with_reducible apply Gro.alloc | with_reducible apply Gro.drew | with_reducible apply Gro.drewN)); done)) hol
                  refine ⟨j + 1, ac2 ++ [⟨dd.Stack, dd.After⟩], A7, c7, S7, by rw [List.length_append]; rfl, by go_num, by omega, HK, by rw [List.length_append]; simp; omega, hGW, by rw [List.length_append]; exact hH7, fun b hb => ?_⟩
                  rcases hS7 b hb with h | h
                  · exact hol b h
                  · simp at h; omega
                case measure => simp [intOf]; omega
              · have HK := Lib.hid (show ac2 = keepE ds l ++ addE (ds.take (j + 1)) from by rw [addE_snoc HDK.out, if_neg hz, List.append_nil, ← hac.out])
                by_cases hz1 : dd.Before = 0
                · have hz2 : ¬ 0 < dd.After := fun h => hz ⟨hz1, h⟩
                  have hz3 : decide (0 < dd.After) = false := decide_eq_false hz2
                  have hz4 : (dd.Before == 0) = true := by simp [hz1]
                  clear hz hz1
                  go_wp2_with (fail)
                  go_roundw
                  case rel => exact ⟨j + 1, ac2, Ao, co, So, rfl, by go_num, by omega, HK, by omega, hG.trans (by (repeat (first | with_reducible exact Gro.refl _ | with_reducible exact Gro.refl_drew _ _ _ | with_reducible exact Gro.refl_drewN _ _ _ _ | assumption | with_reducible apply Gro.more | with_reducible apply Gro.alloc | with_reducible apply Gro.drew | with_reducible apply Gro.drewN)); done), hO.gro (by (repeat (first | with_reducible exact Gro.refl _ | with_reducible exact Gro.refl_drew _ _ _ | with_reducible exact Gro.refl_drewN _ _ _ _ | assumption | with_reducible apply Gro.more | with_reducible apply Gro.alloc | with_reducible apply Gro.drew | with_reducible apply Gro.drewN)); done), hol⟩
                  case measure => simp [intOf]; omega
                · have hz4 : (dd.Before == 0) = false := by simp [hz1]
                  clear hz hz1
                  go_wp2_with (fail)
                  go_roundw
                  case rel => exact ⟨j + 1, ac2, Ao, co, So, rfl, by go_num, by omega, HK, by omega, hG.trans (by (repeat (first | with_reducible exact Gro.refl _ | with_reducible exact Gro.refl_drew _ _ _ | with_reducible exact Gro.refl_drewN _ _ _ _ | assumption | with_reducible apply Gro.more | with_reducible apply Gro.alloc | with_reducible apply Gro.drew | with_reducible apply Gro.drewN)); done), hO.gro (by (repeat (first | with_reducible exact Gro.refl _ | with_reducible exact Gro.refl_drew _ _ _ | with_reducible exact Gro.refl_drewN _ _ _ _ | assumption | with_reducible apply Gro.more | with_reducible apply Gro.alloc | with_reducible apply Gro.drew | with_reducible apply Gro.drewN)); done), hol⟩
                  case measure => simp [intOf]; omega
            · obtain rfl : j = ds.length := by omega
              rw [List.take_length] at hac
              have HSZ := Lib.hid (show ∀ (j : Nat) (e : DEntry), ac2[j]? = some e → e.Stack.size ≤ 1073741824 from fun j e h => by
                have h1 := List.mem_of_getElem? h
                rw [hac.out] at h1
                rcases List.mem_append.1 h1 with h2 | h2
                · obtain ⟨x, hx1, hx2⟩ := List.mem_filterMap.1 h2
                  have h3 := HES.out x (by rw [HL.out]; exact hx1)
                  split at hx2
                  · cases hx2
                  · injection hx2 with hx2
                    rw [← hx2]
                    simp only
                    omega
                · obtain ⟨x, hx1, hx2⟩ := List.mem_filterMap.1 h2
                  have h3 := HDS.out x hx1
                  split at hx2
                  · injection hx2 with hx2
                    rw [← hx2]
                    exact h3
                  · cases hx2)
              have hfr2 : frSum ac2 ≤ 500000000000 := by rw [hac.out]; exact HFR.out
              obtain ⟨t, fine, hf⟩ : ∃ t fine, profR ac2 = (t, fine) := ⟨_, _, rfl⟩
              have HF := Lib.hid hf
              have HR2 := Lib.hid (show applyP p ds = (t, fine) from by rw [HR.out, ← hac.out]; exact hf)
              have hGw1 := hGZ1.trans hG
              obtain ⟨os9, d9, rfl⟩ := hGw1
              clear hf
              go_wp2_with (go_at_call 18; (with_reducible refine (profOf_i (l := ac2) hO.read HSZ.out hfr2 (Gro.cell (by repeat (first | with_reducible exact Gro.refl _ | with_reducible exact Gro.refl_drew _ _ _ | with_reducible exact Gro.refl_drewN _ _ _ _ | assumption | with_reducible apply Gro.more | with_reducible apply Gro.alloc | with_reducible apply Gro.drew | with_reducible apply Gro.drewN)) HM.out)).mono ?_); rw [HF.out]; rintro e w4 ⟨A6, c6, A7, c7, rfl, hF6, os6, d6, rfl⟩)
              refine bodyPost_ret (v := .tuple #[.agg #[.slice A6 t.Stacks.Nodes.length c6, .slice A7 t.Counts.length c7], .bool fine]) (by simp [results, Tryz.results23, go_sem]) rfl (ret_profile_bool HR2.out ?_ (by repeat (first | with_reducible exact Gro.refl _ | with_reducible exact Gro.refl_drew _ _ _ | with_reducible exact Gro.refl_drewN _ _ _ _ | assumption | with_reducible apply Gro.more | with_reducible apply Gro.alloc | with_reducible apply Gro.drew | with_reducible apply Gro.drewN)))
              exact (hF6.frN.same (by repeat (first | with_reducible exact Same.refl _ _ _ | ((with_reducible refine same_hi ?_ ?_) <;> (simp <;> omega)) | ((with_reducible refine same_gro ?_ ?_); rotate_left; (simp <;> omega)) | ((with_reducible refine same_alloc ?_ ?_); rotate_left; (simp <;> omega)) | ((with_reducible refine same_alloc_lo ?_ ?_ ?_); rotate_left; (simp <;> omega); (simp <;> omega)) | with_reducible apply same_drew_l | ((with_reducible refine Same.more ?_ ?_ _ _); rotate_left; simp <;> omega) | ((with_reducible refine Same.alloc ?_ ?_ _); rotate_left; simp <;> omega) | with_reducible apply Same.drew | with_reducible apply Same.drewN))).fresh (by simp <;> omega)
end Go.Proofs.YtdlkoffandhclaaGreatDoor
namespace Go.Proofs.YtdlkoffandhclaaGreatDoor
open Go.RowKit
theorem wp_gen3 {P : Program} {C : Code} {Q : Exit → Act → World → Prop} {a : Act} {W0 : World} (F : World → Prop) (h : F W0) (k : ∀ W, F W → Code.wp P C Q a W) : Code.wp P C Q a W0 := k W0 h
def slLen3 : Value → Nat
  | .slice _ n _ => n
  | _ => 0
set_option maxRecDepth 100000 in
set_option maxHeartbeats 16000000 in
theorem diff_i {p q : DProfile} {w : World} {A0 A1 A2 A3 : Option Addr} {c0 c1 c2 c3 : Nat} (hx : (tNode.sl 92).R w w.heap.size [.slice A0 p.Stacks.Nodes.length c0] p.Stacks.Nodes) (hy : (intT.sl 3).R w w.heap.size [.slice A1 p.Counts.length c1] p.Counts) (hn : p.Stacks.Nodes.length ≤ 549755813888)
    (hz : (tNode.sl 92).R w w.heap.size [.slice A2 q.Stacks.Nodes.length c2] q.Stacks.Nodes) (hu : (intT.sl 3).R w w.heap.size [.slice A3 q.Counts.length c3] q.Counts) (hm : q.Stacks.Nodes.length ≤ 549755813888) :
    Calls Tryz.prog 22 #[.agg #[.slice A0 p.Stacks.Nodes.length c0, .slice A1 p.Counts.length c1], .agg #[.slice A2 q.Stacks.Nodes.length c2, .slice A3 q.Counts.length c3]] w (RetSl tDelta 55 (diffsOf p q) w) := by
  cases hp : profileOk p
  · have HR := Lib.hid (show diffsOf p q = [] from by simp [diffsOf, hp])
    have HP := Lib.hid hp
    clear hp
    go_enter Tryz.func22, Tryz.ntmps22
    go_wp2_with (go_at_call 41; (with_reducible refine (profileOk_i (p := p) (Ty.up _ hx (by repeat (first | with_reducible exact Gro.refl _ | with_reducible exact Gro.refl_drew _ _ _ | with_reducible exact Gro.refl_drewN _ _ _ _ | assumption | with_reducible apply Gro.more | with_reducible apply Gro.alloc | with_reducible apply Gro.drew | with_reducible apply Gro.drewN))) (Ty.up _ hy (by repeat (first | with_reducible exact Gro.refl _ | with_reducible exact Gro.refl_drew _ _ _ | with_reducible exact Gro.refl_drewN _ _ _ _ | assumption | with_reducible apply Gro.more | with_reducible apply Gro.alloc | with_reducible apply Gro.drew | with_reducible apply Gro.drewN)))).mono ?_); rw [HP.out]; rintro e w1 ⟨rfl, os1p, d1p, rfl⟩)
    go_ret
    rw [HR.out]
    exact ⟨none, 0, rfl, fresh_nil _ _, (by repeat (first | with_reducible exact Gro.refl _ | with_reducible exact Gro.refl_drew _ _ _ | with_reducible exact Gro.refl_drewN _ _ _ _ | assumption | with_reducible apply Gro.more | with_reducible apply Gro.alloc | with_reducible apply Gro.drew | with_reducible apply Gro.drewN))⟩
  cases hq : profileOk q
  · have HR := Lib.hid (show diffsOf p q = [] from by simp [diffsOf, hp, hq])
    have HP := Lib.hid hp
    have HQ := Lib.hid hq
    clear hp hq
    go_enter Tryz.func22, Tryz.ntmps22
    go_wp2_with (first
      | (go_at_call 41; (with_reducible refine (profileOk_i (p := p) (Ty.up _ hx (by repeat (first | with_reducible exact Gro.refl _ | with_reducible exact Gro.refl_drew _ _ _ | with_reducible exact Gro.refl_drewN _ _ _ _ | assumption | with_reducible apply Gro.more | with_reducible apply Gro.alloc | with_reducible apply Gro.drew | with_reducible apply Gro.drewN))) (Ty.up _ hy (by repeat (first | with_reducible exact Gro.refl _ | with_reducible exact Gro.refl_drew _ _ _ | with_reducible exact Gro.refl_drewN _ _ _ _ | assumption | with_reducible apply Gro.more | with_reducible apply Gro.alloc | with_reducible apply Gro.drew | with_reducible apply Gro.drewN)))).mono ?_); rw [HP.out]; rintro e w1 ⟨rfl, os1p, d1p, rfl⟩)
      | (go_at_call 41; (with_reducible refine (profileOk_i (p := q) (Ty.up _ hz (by repeat (first | with_reducible exact Gro.refl _ | with_reducible exact Gro.refl_drew _ _ _ | with_reducible exact Gro.refl_drewN _ _ _ _ | assumption | with_reducible apply Gro.more | with_reducible apply Gro.alloc | with_reducible apply Gro.drew | with_reducible apply Gro.drewN))) (Ty.up _ hu (by repeat (first | with_reducible exact Gro.refl _ | with_reducible exact Gro.refl_drew _ _ _ | with_reducible exact Gro.refl_drewN _ _ _ _ | assumption | with_reducible apply Gro.more | with_reducible apply Gro.alloc | with_reducible apply Gro.drew | with_reducible apply Gro.drewN)))).mono ?_); rw [HQ.out]; rintro e w1 ⟨rfl, os1q, d1q, rfl⟩))
    go_ret
    rw [HR.out]
    exact ⟨none, 0, rfl, fresh_nil _ _, (by repeat (first | with_reducible exact Gro.refl _ | with_reducible exact Gro.refl_drew _ _ _ | with_reducible exact Gro.refl_drewN _ _ _ _ | assumption | with_reducible apply Gro.more | with_reducible apply Gro.alloc | with_reducible apply Gro.drew | with_reducible apply Gro.drewN))⟩
  have HR := Lib.hid (show diffsOf p q = mergeD (entriesOf p) (entriesOf q) from by simp only [diffsOf, hp, hq, Bool.and_self, if_true])
  have HP := Lib.hid hp
  have HQ := Lib.hid hq
  have hpl := Nat.le_of_eq (pOk_len hp)
  have hql := Nat.le_of_eq (pOk_len hq)
  have hlx := entriesOf_len p
  have hly := entriesOf_len q
  clear hp hq
  go_enter Tryz.func22, Tryz.ntmps22
  go_wp2_with (first
    | (go_at_call 41; (with_reducible refine (profileOk_i (p := p) (Ty.up _ hx (by repeat (first | with_reducible exact Gro.refl _ | with_reducible exact Gro.refl_drew _ _ _ | with_reducible exact Gro.refl_drewN _ _ _ _ | assumption | with_reducible apply Gro.more | with_reducible apply Gro.alloc | with_reducible apply Gro.drew | with_reducible apply Gro.drewN))) (Ty.up _ hy (by repeat (first | with_reducible exact Gro.refl _ | with_reducible exact Gro.refl_drew _ _ _ | with_reducible exact Gro.refl_drewN _ _ _ _ | assumption | with_reducible apply Gro.more | with_reducible apply Gro.alloc | with_reducible apply Gro.drew | with_reducible apply Gro.drewN)))).mono ?_); rw [HP.out]; rintro e w1 ⟨rfl, os1p, d1p, rfl⟩)
    | (go_at_call 41; (with_reducible refine (profileOk_i (p := q) (Ty.up _ hz (by repeat (first | with_reducible exact Gro.refl _ | with_reducible exact Gro.refl_drew _ _ _ | with_reducible exact Gro.refl_drewN _ _ _ _ | assumption | with_reducible apply Gro.more | with_reducible apply Gro.alloc | with_reducible apply Gro.drew | with_reducible apply Gro.drewN))) (Ty.up _ hu (by repeat (first | with_reducible exact Gro.refl _ | with_reducible exact Gro.refl_drew _ _ _ | with_reducible exact Gro.refl_drewN _ _ _ _ | assumption | with_reducible apply Gro.more | with_reducible apply Gro.alloc | with_reducible apply Gro.drew | with_reducible apply Gro.drewN)))).mono ?_); rw [HQ.out]; rintro e w1 ⟨rfl, os1q, d1q, rfl⟩))
  go_region_held3 (fun w' => w'.cell? ⟨w.heap.size, 0, none⟩ = some (.slice A0 p.Stacks.Nodes.length c0) ∧ w'.cell? ⟨w.heap.size, 1, none⟩ = some (.slice A1 p.Counts.length c1) ∧ w'.cell? ⟨w.heap.size + 1, 0, none⟩ = some (.slice A2 q.Stacks.Nodes.length c2) ∧ w'.cell? ⟨w.heap.size + 1, 1, none⟩ = some (.slice A3 q.Counts.length c3)) ((repeat' apply And.intro) <;> (first | ((repeat (first | assumption | with_reducible refine gro_keeps ?_ _ _ | with_reducible refine alloc_keeps ?_ _ | with_reducible refine drew_keeps ?_)); done) | (simp [go_sem]; done))) (first
    | (go_at_call 17; (with_reducible refine (entriesOf_i (p := p) (Ty.up _ hx (by repeat (first | with_reducible exact Gro.refl _ | with_reducible exact Gro.refl_drew _ _ _ | with_reducible exact Gro.refl_drewN _ _ _ _ | assumption | with_reducible apply Gro.more | with_reducible apply Gro.alloc | with_reducible apply Gro.drew | with_reducible apply Gro.drewN))) (Ty.up _ hy (by repeat (first | with_reducible exact Gro.refl _ | with_reducible exact Gro.refl_drew _ _ _ | with_reducible exact Gro.refl_drewN _ _ _ _ | assumption | with_reducible apply Gro.more | with_reducible apply Gro.alloc | with_reducible apply Gro.drew | with_reducible apply Gro.drewN))) (by omega)).mono ?_); rintro e w3 ⟨B3, b3, rfl, hF3, os3, d3, rfl⟩)
    | (go_at_call 17; (with_reducible refine (entriesOf_i (p := q) (Ty.up _ hz (by repeat (first | with_reducible exact Gro.refl _ | with_reducible exact Gro.refl_drew _ _ _ | with_reducible exact Gro.refl_drewN _ _ _ _ | assumption | with_reducible apply Gro.more | with_reducible apply Gro.alloc | with_reducible apply Gro.drew | with_reducible apply Gro.drewN))) (Ty.up _ hu (by repeat (first | with_reducible exact Gro.refl _ | with_reducible exact Gro.refl_drew _ _ _ | with_reducible exact Gro.refl_drewN _ _ _ _ | assumption | with_reducible apply Gro.more | with_reducible apply Gro.alloc | with_reducible apply Gro.drew | with_reducible apply Gro.drewN))) (by omega)).mono ?_); rintro e w3 ⟨B4, b4, rfl, hF4, os4, d4, rfl⟩))
  go_wp2_with (fail)
  refine wp_gen3 (fun W => Hid (Gro w W) ∧ Hid ((tEntry.sl 48).R W W.heap.size [.slice B3 (entriesOf p).length b3] (entriesOf p)) ∧ Hid ((tEntry.sl 48).R W W.heap.size [.slice B4 (entriesOf q).length b4] (entriesOf q)) ∧ Hid (EmpFr tDelta 55 W (w.heap.size + 1 + 1 + os1p.size + os1q.size + os3.size + os4.size) W (some ⟨(w.heap.size + 1 + 1 + os1p.size + os1q.size + os3.size + os4.size), 0, none⟩) 0 0 [])) ⟨Lib.hid (by repeat (first | with_reducible exact Gro.refl _ | with_reducible exact Gro.refl_drew _ _ _ | with_reducible exact Gro.refl_drewN _ _ _ _ | assumption | with_reducible apply Gro.more | with_reducible apply Gro.alloc | with_reducible apply Gro.drew | with_reducible apply Gro.drewN)), Lib.hid (Ty.up _ hF3.read (by repeat (first | with_reducible exact Gro.refl _ | with_reducible exact Gro.refl_drew _ _ _ | with_reducible exact Gro.refl_drewN _ _ _ _ | assumption | with_reducible apply Gro.more | with_reducible apply Gro.alloc | with_reducible apply Gro.drew | with_reducible apply Gro.drewN))), Lib.hid (Ty.up _ hF4.read (by repeat (first | with_reducible exact Gro.refl _ | with_reducible exact Gro.refl_drew _ _ _ | with_reducible exact Gro.refl_drewN _ _ _ _ | assumption | with_reducible apply Gro.more | with_reducible apply Gro.alloc | with_reducible apply Gro.drew | with_reducible apply Gro.drewN))), Lib.hid (EmpFr.start (by repeat (first | with_reducible exact Gro.refl _ | with_reducible exact Gro.refl_drew _ _ _ | with_reducible exact Gro.refl_drewN _ _ _ _ | assumption | with_reducible apply Gro.more | with_reducible apply Gro.alloc | with_reducible apply Gro.drew | with_reducible apply Gro.drewN)) (by simp))⟩ ?_
  clear hx hy hz hu hF3 hF4
  rintro W ⟨HG, HX0, HY0, HO⟩
  have hgw : w.heap.size ≤ (w.heap.size + 1 + 1 + os1p.size + os1q.size + os3.size + os4.size) := by omega
  generalize (w.heap.size + 1 + 1 + os1p.size + os1q.size + os3.size + os4.size) = g0 at HO hgw ⊢
  go_loopw [5, 6, 7] (fun a b o wr => ∃ (xs ys : List DEntry) (acc : List DDelta) (Ax Ay A : Option Addr) (cx cy c : Nat), a = .slice Ax xs.length cx ∧ b = .slice Ay ys.length cy ∧ o = .slice A acc.length c ∧ acc.length + xs.length + ys.length ≤ (entriesOf p).length + (entriesOf q).length ∧ Hid (acc ++ mergeD xs ys = mergeD (entriesOf p) (entriesOf q)) ∧ Hid ((tEntry.sl 48).R W W.heap.size [.slice Ax xs.length cx] xs) ∧ Hid ((tEntry.sl 48).R W W.heap.size [.slice Ay ys.length cy] ys) ∧ Hid (Gro W wr) ∧ Hid (EmpFr tDelta 55 W g0 wr A acc.length c acc)) (fun a b _ _ => slLen3 a + slLen3 b)
  case atStart => exact ⟨entriesOf p, entriesOf q, [], _, _, _, _, _, 0, rfl, rfl, rfl, by simp, Lib.hid (by simp), HX0, HY0, Lib.hid (by repeat (first | with_reducible exact Gro.refl _ | with_reducible exact Gro.refl_drew _ _ _ | with_reducible exact Gro.refl_drewN _ _ _ _ | assumption | with_reducible apply Gro.more | with_reducible apply Gro.alloc | with_reducible apply Gro.drew | with_reducible apply Gro.drewN)), HO⟩
  case round =>
    obtain ⟨xs, ys, acc, Ax, Ay, A, cx, cy, c, rfl, rfl, rfl, hN, HT, HX, HY, hG, hF⟩ := hrel
    obtain ⟨os, d, rfl⟩ := hG.out
    clear hG
    by_cases hxl : 0 < xs.length
    · obtain ⟨g1, off1, a, rfl, hgb1, hak, ha0, ha1, ba0, ba1⟩ := atEntry HX.out (k := 0) (by omega); simp only [Nat.zero_mul, Nat.add_zero] at ha0 ha1; have hxsi : (0 : Int) < (xs.length : Int) := by omega
      have HXC := Lib.hid (show xs = a :: xs.drop 1 from by have := drop_at hak; simpa using this)
      obtain ⟨Bx, hslx, hRx⟩ := run_from elEntry HX.out (k := 1) (by omega); simp only [show ((1 : Nat) : Int) = 1 from rfl] at hslx
      have hxd : decide ((0 : Int) < (xs.length : Int)) = true := by simp; omega
      have hx0 : ((xs.length : Int) == 0) = false := beq_eq_false_iff_ne.2 (by omega)
      clear hak
      by_cases hyl : 0 < ys.length
      · obtain ⟨g2, off2, b, rfl, hgb2, hbk, hb0, hb1, bb0, bb1⟩ := atEntry HY.out (k := 0) (by omega); simp only [Nat.zero_mul, Nat.add_zero] at hb0 hb1; have hysi : (0 : Int) < (ys.length : Int) := by omega
        have HYC := Lib.hid (show ys = b :: ys.drop 1 from by have := drop_at hbk; simpa using this)
        obtain ⟨By, hsly, hRy⟩ := run_from elEntry HY.out (k := 1) (by omega); simp only [show ((1 : Nat) : Int) = 1 from rfl] at hsly
        have hy0 : ((ys.length : Int) == 0) = false := beq_eq_false_iff_ne.2 (by omega)
        clear hbk
        cases hab : Op.bytesLess a.Stack.toList b.Stack.toList
        · cases hba : Op.bytesLess b.Stack.toList a.Stack.toList
          · have HM := Lib.hid (show mergeD xs ys = pre ⟨a.Stack, a.Count, b.Count⟩ (mergeD (xs.drop 1) (ys.drop 1)) from by
              conv => lhs; rw [HXC.out, HYC.out]
              rw [mergeD, if_neg (show ¬ bl a.Stack < bl b.Stack from bytes_nlt hab), if_neg (show ¬ bl b.Stack < bl a.Stack from bytes_nlt hba)])
            have HMM := Lib.hid (show acc ++ pre ⟨a.Stack, a.Count, b.Count⟩ (mergeD (xs.drop 1) (ys.drop 1)) = mergeD (entriesOf p) (entriesOf q) from by rw [← HM.out]; exact HT.out)
            by_cases hne : a.Count = b.Count
            · have hnb : (a.Count == b.Count) = true := by simp [hne]
              have HT2 := Lib.hid (show acc ++ mergeD (xs.drop 1) (ys.drop 1) = mergeD (entriesOf p) (entriesOf q) from by rw [← HMM.out, pre, if_neg (fun k => k hne)])
              clear hne
              go_wp2_with (fail)
              go_quiet (fail)
              go_wp2_with (fail)
              go_quiet (fail)
              go_wp2_with (fail)
              go_region
              all_goals go_wp2_with (fail)
              all_goals go_quiet (fail)
              all_goals go_wp2_with (fail)
              all_goals go_roundw
              all_goals try (case measure => simp [slLen3]; omega)
              all_goals exact ⟨xs.drop 1, ys.drop 1, acc, Bx, By, A, cx - 1, cy - 1, c, by simp, by simp, rfl, by simp; omega, HT2, Lib.hid (by simpa using hRx), Lib.hid (by simpa using hRy), Lib.hid (by repeat (first | with_reducible exact Gro.refl _ | with_reducible exact Gro.refl_drew _ _ _ | with_reducible exact Gro.refl_drewN _ _ _ _ | assumption | with_reducible apply Gro.more | with_reducible apply Gro.alloc | with_reducible apply Gro.drew | with_reducible apply Gro.drewN)), Lib.hid (hF.out.gro (by repeat (first | with_reducible exact Gro.refl _ | with_reducible exact Gro.refl_drew _ _ _ | with_reducible exact Gro.refl_drewN _ _ _ _ | assumption | with_reducible apply Gro.more | with_reducible apply Gro.alloc | with_reducible apply Gro.drew | with_reducible apply Gro.drewN)))⟩
            · have hnb : (a.Count == b.Count) = false := by simp [hne]
              have HT2 := Lib.hid (show (acc ++ [⟨a.Stack, a.Count, b.Count⟩]) ++ mergeD (xs.drop 1) (ys.drop 1) = mergeD (entriesOf p) (entriesOf q) from by rw [← HMM.out, pre, if_pos hne]; simp)
              clear hne
              go_wp2_with (fail)
              go_quiet (fail)
              go_wp2_with (fail)
              go_quiet (fail)
              go_wp2_with (fail)
              go_region
              all_goals go_wp2_with (fail)
              all_goals go_quiet (fail)
              all_goals go_wp2_with (at_builtin; go_must (refine wpList_append_eone (W0 := W) (L := acc.length + 1) rfl (.tmp 108) (.tmp 110) elDelta flatDelta (hF.out.gro (by repeat (first | with_reducible exact Gro.refl _ | with_reducible exact Gro.refl_drew _ _ _ | with_reducible exact Gro.refl_drewN _ _ _ _ | assumption | with_reducible apply Gro.more | with_reducible apply Gro.alloc | with_reducible apply Gro.drew | with_reducible apply Gro.drewN))) (by repeat (first | with_reducible exact Gro.refl _ | with_reducible exact Gro.refl_drew _ _ _ | with_reducible exact Gro.refl_drewN _ _ _ _ | assumption | with_reducible apply Gro.more | with_reducible apply Gro.alloc | with_reducible apply Gro.drew | with_reducible apply Gro.drewN)) (W1 := w) (B := 0) (ec := [.string a.Stack, .int .i64 a.Count, .int .i64 b.Count]) (y := ⟨a.Stack, a.Count, b.Count⟩) (tDelta_mkR (x := ⟨a.Stack, a.Count, b.Count⟩) ba0 ba1 bb1) rfl rfl rfl (by simp) (by intro j u hu; simpa [go_sem] using hu) rfl (by omega) (by omega) ?_); intro D2 e2 os4 d4 hF4)
              all_goals go_roundw
              all_goals try (case measure => simp [slLen3]; omega)
              all_goals exact ⟨xs.drop 1, ys.drop 1, acc ++ [⟨a.Stack, a.Count, b.Count⟩], Bx, By, D2, cx - 1, cy - 1, e2, by simp, by simp, by simp, by simp; omega, HT2, Lib.hid (by simpa using hRx), Lib.hid (by simpa using hRy), Lib.hid (by repeat (first | with_reducible exact Gro.refl _ | with_reducible exact Gro.refl_drew _ _ _ | with_reducible exact Gro.refl_drewN _ _ _ _ | assumption | with_reducible apply Gro.more | with_reducible apply Gro.alloc | with_reducible apply Gro.drew | with_reducible apply Gro.drewN)), Lib.hid (.inr (by simpa using hF4))⟩
          · have HM := Lib.hid (show mergeD xs ys = pre ⟨b.Stack, 0, b.Count⟩ (mergeD xs (ys.drop 1)) from by
              conv => lhs; rw [HXC.out, HYC.out]
              rw [mergeD, if_neg (show ¬ bl a.Stack < bl b.Stack from bytes_nlt hab), if_pos (show bl b.Stack < bl a.Stack from bytes_lt hba), ← HXC.out])
            have HMM := Lib.hid (show acc ++ pre ⟨b.Stack, 0, b.Count⟩ (mergeD (xs) (ys.drop 1)) = mergeD (entriesOf p) (entriesOf q) from by rw [← HM.out]; exact HT.out)
            by_cases hne : 0 = b.Count
            · have hnb : (0 == b.Count) = true := by simp [hne]
              have HT2 := Lib.hid (show acc ++ mergeD (xs) (ys.drop 1) = mergeD (entriesOf p) (entriesOf q) from by rw [← HMM.out, pre, if_neg (fun k => k hne)])
              clear hne
              go_wp2_with (fail)
              go_quiet (fail)
              go_wp2_with (fail)
              go_quiet (fail)
              go_wp2_with (fail)
              go_region
              all_goals go_wp2_with (fail)
              all_goals go_roundw
              all_goals try (case measure => simp [slLen3]; omega)
              all_goals exact ⟨xs, ys.drop 1, acc, _, By, A, cx, cy - 1, c, by simp, by simp, rfl, by simp; omega, HT2, HX, Lib.hid (by simpa using hRy), Lib.hid (by repeat (first | with_reducible exact Gro.refl _ | with_reducible exact Gro.refl_drew _ _ _ | with_reducible exact Gro.refl_drewN _ _ _ _ | assumption | with_reducible apply Gro.more | with_reducible apply Gro.alloc | with_reducible apply Gro.drew | with_reducible apply Gro.drewN)), Lib.hid (hF.out.gro (by repeat (first | with_reducible exact Gro.refl _ | with_reducible exact Gro.refl_drew _ _ _ | with_reducible exact Gro.refl_drewN _ _ _ _ | assumption | with_reducible apply Gro.more | with_reducible apply Gro.alloc | with_reducible apply Gro.drew | with_reducible apply Gro.drewN)))⟩
            · have hnb : (0 == b.Count) = false := by simp [hne]
              have HT2 := Lib.hid (show (acc ++ [⟨b.Stack, 0, b.Count⟩]) ++ mergeD (xs) (ys.drop 1) = mergeD (entriesOf p) (entriesOf q) from by rw [← HMM.out, pre, if_pos hne]; simp)
              clear hne
              go_wp2_with (fail)
              go_quiet (fail)
              go_wp2_with (fail)
              go_quiet (fail)
              go_wp2_with (fail)
              go_region
              all_goals go_wp2_with (at_builtin; go_must (refine wpList_append_eone (W0 := W) (L := acc.length + 1) rfl (.tmp 108) (.tmp 110) elDelta flatDelta (hF.out.gro (by repeat (first | with_reducible exact Gro.refl _ | with_reducible exact Gro.refl_drew _ _ _ | with_reducible exact Gro.refl_drewN _ _ _ _ | assumption | with_reducible apply Gro.more | with_reducible apply Gro.alloc | with_reducible apply Gro.drew | with_reducible apply Gro.drewN))) (by repeat (first | with_reducible exact Gro.refl _ | with_reducible exact Gro.refl_drew _ _ _ | with_reducible exact Gro.refl_drewN _ _ _ _ | assumption | with_reducible apply Gro.more | with_reducible apply Gro.alloc | with_reducible apply Gro.drew | with_reducible apply Gro.drewN)) (W1 := w) (B := 0) (ec := [.string b.Stack, .int .i64 0, .int .i64 b.Count]) (y := ⟨b.Stack, 0, b.Count⟩) (tDelta_mkR (x := ⟨b.Stack, 0, b.Count⟩) bb0 (show I64 0 from ⟨by decide, by decide⟩) bb1) rfl rfl rfl (by simp) (by intro j u hu; simpa [go_sem] using hu) rfl (by omega) (by omega) ?_); intro D2 e2 os4 d4 hF4)
              all_goals go_roundw
              all_goals try (case measure => simp [slLen3]; omega)
              all_goals exact ⟨xs, ys.drop 1, acc ++ [⟨b.Stack, 0, b.Count⟩], _, By, D2, cx, cy - 1, e2, by simp, by simp, by simp, by simp; omega, HT2, HX, Lib.hid (by simpa using hRy), Lib.hid (by repeat (first | with_reducible exact Gro.refl _ | with_reducible exact Gro.refl_drew _ _ _ | with_reducible exact Gro.refl_drewN _ _ _ _ | assumption | with_reducible apply Gro.more | with_reducible apply Gro.alloc | with_reducible apply Gro.drew | with_reducible apply Gro.drewN)), Lib.hid (.inr (by simpa using hF4))⟩
        · have HM := Lib.hid (show mergeD xs ys = pre ⟨a.Stack, a.Count, 0⟩ (mergeD (xs.drop 1) ys) from by
            conv => lhs; rw [HXC.out, HYC.out]
            rw [mergeD, if_pos (show bl a.Stack < bl b.Stack from bytes_lt hab), ← HYC.out])
          have HMM := Lib.hid (show acc ++ pre ⟨a.Stack, a.Count, 0⟩ (mergeD (xs.drop 1) (ys)) = mergeD (entriesOf p) (entriesOf q) from by rw [← HM.out]; exact HT.out)
          by_cases hne : a.Count = 0
          · have hnb : (a.Count == 0) = true := by simp [hne]
            have HT2 := Lib.hid (show acc ++ mergeD (xs.drop 1) (ys) = mergeD (entriesOf p) (entriesOf q) from by rw [← HMM.out, pre, if_neg (fun k => k hne)])
            clear hne
            go_wp2_with (fail)
            go_quiet (fail)
            go_wp2_with (fail)
            go_region
            all_goals go_wp2_with (fail)
            all_goals go_roundw
            all_goals try (case measure => simp [slLen3]; omega)
            all_goals exact ⟨xs.drop 1, ys, acc, Bx, _, A, cx - 1, cy, c, by simp, by simp, rfl, by simp; omega, HT2, Lib.hid (by simpa using hRx), HY, Lib.hid (by repeat (first | with_reducible exact Gro.refl _ | with_reducible exact Gro.refl_drew _ _ _ | with_reducible exact Gro.refl_drewN _ _ _ _ | assumption | with_reducible apply Gro.more | with_reducible apply Gro.alloc | with_reducible apply Gro.drew | with_reducible apply Gro.drewN)), Lib.hid (hF.out.gro (by repeat (first | with_reducible exact Gro.refl _ | with_reducible exact Gro.refl_drew _ _ _ | with_reducible exact Gro.refl_drewN _ _ _ _ | assumption | with_reducible apply Gro.more | with_reducible apply Gro.alloc | with_reducible apply Gro.drew | with_reducible apply Gro.drewN)))⟩
          · have hnb : (a.Count == 0) = false := by simp [hne]
            have HT2 := Lib.hid (show (acc ++ [⟨a.Stack, a.Count, 0⟩]) ++ mergeD (xs.drop 1) (ys) = mergeD (entriesOf p) (entriesOf q) from by rw [← HMM.out, pre, if_pos hne]; simp)
            clear hne
            go_wp2_with (fail)
            go_quiet (fail)
            go_wp2_with (fail)
            go_region
            all_goals go_wp2_with (at_builtin; go_must (refine wpList_append_eone (W0 := W) (L := acc.length + 1) rfl (.tmp 108) (.tmp 110) elDelta flatDelta (hF.out.gro (by repeat (first | with_reducible exact Gro.refl _ | with_reducible exact Gro.refl_drew _ _ _ | with_reducible exact Gro.refl_drewN _ _ _ _ | assumption | with_reducible apply Gro.more | with_reducible apply Gro.alloc | with_reducible apply Gro.drew | with_reducible apply Gro.drewN))) (by repeat (first | with_reducible exact Gro.refl _ | with_reducible exact Gro.refl_drew _ _ _ | with_reducible exact Gro.refl_drewN _ _ _ _ | assumption | with_reducible apply Gro.more | with_reducible apply Gro.alloc | with_reducible apply Gro.drew | with_reducible apply Gro.drewN)) (W1 := w) (B := 0) (ec := [.string a.Stack, .int .i64 a.Count, .int .i64 0]) (y := ⟨a.Stack, a.Count, 0⟩) (tDelta_mkR (x := ⟨a.Stack, a.Count, 0⟩) ba0 ba1 (show I64 0 from ⟨by decide, by decide⟩)) rfl rfl rfl (by simp) (by intro j u hu; simpa [go_sem] using hu) rfl (by omega) (by omega) ?_); intro D2 e2 os4 d4 hF4)
            all_goals go_roundw
            all_goals try (case measure => simp [slLen3]; omega)
            all_goals exact ⟨xs.drop 1, ys, acc ++ [⟨a.Stack, a.Count, 0⟩], Bx, _, D2, cx - 1, cy, e2, by simp, by simp, by simp, by simp; omega, HT2, Lib.hid (by simpa using hRx), HY, Lib.hid (by repeat (first | with_reducible exact Gro.refl _ | with_reducible exact Gro.refl_drew _ _ _ | with_reducible exact Gro.refl_drewN _ _ _ _ | assumption | with_reducible apply Gro.more | with_reducible apply Gro.alloc | with_reducible apply Gro.drew | with_reducible apply Gro.drewN)), Lib.hid (.inr (by simpa using hF4))⟩
      · have hy0 : ((ys.length : Int) == 0) = true := beq_iff_eq.2 (by omega)
        have HYN := Lib.hid (show ys = [] from List.length_eq_zero_iff.1 (by omega))
        have HM := Lib.hid (show mergeD xs ys = pre ⟨a.Stack, a.Count, 0⟩ (mergeD (xs.drop 1) ys) from by
          conv => lhs; rw [HXC.out]
          rw [HYN.out, mergeD])
        have HMM := Lib.hid (show acc ++ pre ⟨a.Stack, a.Count, 0⟩ (mergeD (xs.drop 1) (ys)) = mergeD (entriesOf p) (entriesOf q) from by rw [← HM.out]; exact HT.out)
        by_cases hne : a.Count = 0
        · have hnb : (a.Count == 0) = true := by simp [hne]
          have HT2 := Lib.hid (show acc ++ mergeD (xs.drop 1) (ys) = mergeD (entriesOf p) (entriesOf q) from by rw [← HMM.out, pre, if_neg (fun k => k hne)])
          clear hne
          go_wp2_with (fail)
          go_quiet (fail)
          go_wp2_with (fail)
          go_region
          all_goals go_wp2_with (fail)
          all_goals go_roundw
          all_goals try (case measure => simp [slLen3]; omega)
          all_goals exact ⟨xs.drop 1, ys, acc, Bx, _, A, cx - 1, cy, c, by simp, by simp, rfl, by simp; omega, HT2, Lib.hid (by simpa using hRx), HY, Lib.hid (by repeat (first | with_reducible exact Gro.refl _ | with_reducible exact Gro.refl_drew _ _ _ | with_reducible exact Gro.refl_drewN _ _ _ _ | assumption | with_reducible apply Gro.more | with_reducible apply Gro.alloc | with_reducible apply Gro.drew | with_reducible apply Gro.drewN)), Lib.hid (hF.out.gro (by repeat (first | with_reducible exact Gro.refl _ | with_reducible exact Gro.refl_drew _ _ _ | with_reducible exact Gro.refl_drewN _ _ _ _ | assumption | with_reducible apply Gro.more | with_reducible apply Gro.alloc | with_reducible apply Gro.drew | with_reducible apply Gro.drewN)))⟩
        · have hnb : (a.Count == 0) = false := by simp [hne]
          have HT2 := Lib.hid (show (acc ++ [⟨a.Stack, a.Count, 0⟩]) ++ mergeD (xs.drop 1) (ys) = mergeD (entriesOf p) (entriesOf q) from by rw [← HMM.out, pre, if_pos hne]; simp)
          clear hne
          go_wp2_with (fail)
          go_quiet (fail)
          go_wp2_with (fail)
          go_region
          all_goals go_wp2_with (at_builtin; go_must (refine wpList_append_eone (W0 := W) (L := acc.length + 1) rfl (.tmp 108) (.tmp 110) elDelta flatDelta (hF.out.gro (by repeat (first | with_reducible exact Gro.refl _ | with_reducible exact Gro.refl_drew _ _ _ | with_reducible exact Gro.refl_drewN _ _ _ _ | assumption | with_reducible apply Gro.more | with_reducible apply Gro.alloc | with_reducible apply Gro.drew | with_reducible apply Gro.drewN))) (by repeat (first | with_reducible exact Gro.refl _ | with_reducible exact Gro.refl_drew _ _ _ | with_reducible exact Gro.refl_drewN _ _ _ _ | assumption | with_reducible apply Gro.more | with_reducible apply Gro.alloc | with_reducible apply Gro.drew | with_reducible apply Gro.drewN)) (W1 := w) (B := 0) (ec := [.string a.Stack, .int .i64 a.Count, .int .i64 0]) (y := ⟨a.Stack, a.Count, 0⟩) (tDelta_mkR (x := ⟨a.Stack, a.Count, 0⟩) ba0 ba1 (show I64 0 from ⟨by decide, by decide⟩)) rfl rfl rfl (by simp) (by intro j u hu; simpa [go_sem] using hu) rfl (by omega) (by omega) ?_); intro D2 e2 os4 d4 hF4)
          all_goals go_roundw
          all_goals try (case measure => simp [slLen3]; omega)
          all_goals exact ⟨xs.drop 1, ys, acc ++ [⟨a.Stack, a.Count, 0⟩], Bx, _, D2, cx - 1, cy, e2, by simp, by simp, by simp, by simp; omega, HT2, Lib.hid (by simpa using hRx), HY, Lib.hid (by repeat (first | with_reducible exact Gro.refl _ | with_reducible exact Gro.refl_drew _ _ _ | with_reducible exact Gro.refl_drewN _ _ _ _ | assumption | with_reducible apply Gro.more | with_reducible apply Gro.alloc | with_reducible apply Gro.drew | with_reducible apply Gro.drewN)), Lib.hid (.inr (by simpa using hF4))⟩
    · have hxd : decide ((0 : Int) < (xs.length : Int)) = false := decide_eq_false (by omega)
      have hx0 : ((xs.length : Int) == 0) = true := beq_iff_eq.2 (by omega)
      have HXN := Lib.hid (show xs = [] from List.length_eq_zero_iff.1 (by omega))
      by_cases hyl : 0 < ys.length
      · obtain ⟨g2, off2, b, rfl, hgb2, hbk, hb0, hb1, bb0, bb1⟩ := atEntry HY.out (k := 0) (by omega); simp only [Nat.zero_mul, Nat.add_zero] at hb0 hb1; have hysi : (0 : Int) < (ys.length : Int) := by omega
        have HYC := Lib.hid (show ys = b :: ys.drop 1 from by have := drop_at hbk; simpa using this)
        obtain ⟨By, hsly, hRy⟩ := run_from elEntry HY.out (k := 1) (by omega); simp only [show ((1 : Nat) : Int) = 1 from rfl] at hsly
        have hy0 : ((ys.length : Int) == 0) = false := beq_eq_false_iff_ne.2 (by omega)
        clear hbk
        have HM := Lib.hid (show mergeD xs ys = pre ⟨b.Stack, 0, b.Count⟩ (mergeD xs (ys.drop 1)) from by
          conv => lhs; rw [HYC.out]
          rw [HXN.out, mergeD])
        have HMM := Lib.hid (show acc ++ pre ⟨b.Stack, 0, b.Count⟩ (mergeD (xs) (ys.drop 1)) = mergeD (entriesOf p) (entriesOf q) from by rw [← HM.out]; exact HT.out)
        by_cases hne : 0 = b.Count
        · have hnb : (0 == b.Count) = true := by simp [hne]
          have HT2 := Lib.hid (show acc ++ mergeD (xs) (ys.drop 1) = mergeD (entriesOf p) (entriesOf q) from by rw [← HMM.out, pre, if_neg (fun k => k hne)])
          clear hne
          go_wp2_with (fail)
          go_quiet (fail)
          go_wp2_with (fail)
          go_quiet (fail)
          go_wp2_with (fail)
          go_region
          all_goals go_wp2_with (fail)
          all_goals go_roundw
          all_goals try (case measure => simp [slLen3]; omega)
          all_goals exact ⟨xs, ys.drop 1, acc, _, By, A, cx, cy - 1, c, by simp, by simp, rfl, by simp; omega, HT2, HX, Lib.hid (by simpa using hRy), Lib.hid (by repeat (first | with_reducible exact Gro.refl _ | with_reducible exact Gro.refl_drew _ _ _ | with_reducible exact Gro.refl_drewN _ _ _ _ | assumption | with_reducible apply Gro.more | with_reducible apply Gro.alloc | with_reducible apply Gro.drew | with_reducible apply Gro.drewN)), Lib.hid (hF.out.gro (by repeat (first | with_reducible exact Gro.refl _ | with_reducible exact Gro.refl_drew _ _ _ | with_reducible exact Gro.refl_drewN _ _ _ _ | assumption | with_reducible apply Gro.more | with_reducible apply Gro.alloc | with_reducible apply Gro.drew | with_reducible apply Gro.drewN)))⟩
        · have hnb : (0 == b.Count) = false := by simp [hne]
          have HT2 := Lib.hid (show (acc ++ [⟨b.Stack, 0, b.Count⟩]) ++ mergeD (xs) (ys.drop 1) = mergeD (entriesOf p) (entriesOf q) from by rw [← HMM.out, pre, if_pos hne]; simp)
          clear hne
          go_wp2_with (fail)
          go_quiet (fail)
          go_wp2_with (fail)
          go_quiet (fail)
          go_wp2_with (fail)
          go_region
          all_goals go_wp2_with (at_builtin; go_must (refine wpList_append_eone (W0 := W) (L := acc.length + 1) rfl (.tmp 108) (.tmp 110) elDelta flatDelta (hF.out.gro (by repeat (first | with_reducible exact Gro.refl _ | with_reducible exact Gro.refl_drew _ _ _ | with_reducible exact Gro.refl_drewN _ _ _ _ | assumption | with_reducible apply Gro.more | with_reducible apply Gro.alloc | with_reducible apply Gro.drew | with_reducible apply Gro.drewN))) (by repeat (first | with_reducible exact Gro.refl _ | with_reducible exact Gro.refl_drew _ _ _ | with_reducible exact Gro.refl_drewN _ _ _ _ | assumption | with_reducible apply Gro.more | with_reducible apply Gro.alloc | with_reducible apply Gro.drew | with_reducible apply Gro.drewN)) (W1 := w) (B := 0) (ec := [.string b.Stack, .int .i64 0, .int .i64 b.Count]) (y := ⟨b.Stack, 0, b.Count⟩) (tDelta_mkR (x := ⟨b.Stack, 0, b.Count⟩) bb0 (show I64 0 from ⟨by decide, by decide⟩) bb1) rfl rfl rfl (by simp) (by intro j u hu; simpa [go_sem] using hu) rfl (by omega) (by omega) ?_); intro D2 e2 os4 d4 hF4)
          all_goals go_roundw
          all_goals try (case measure => simp [slLen3]; omega)
          all_goals exact ⟨xs, ys.drop 1, acc ++ [⟨b.Stack, 0, b.Count⟩], _, By, D2, cx, cy - 1, e2, by simp, by simp, by simp, by simp; omega, HT2, HX, Lib.hid (by simpa using hRy), Lib.hid (by repeat (first | with_reducible exact Gro.refl _ | with_reducible exact Gro.refl_drew _ _ _ | with_reducible exact Gro.refl_drewN _ _ _ _ | assumption | with_reducible apply Gro.more | with_reducible apply Gro.alloc | with_reducible apply Gro.drew | with_reducible apply Gro.drewN)), Lib.hid (.inr (by simpa using hF4))⟩
      · have HYN := Lib.hid (show ys = [] from List.length_eq_zero_iff.1 (by omega))
        have HE := Lib.hid (show diffsOf p q = acc from by
          rw [HR.out, ← HT.out, HXN.out, HYN.out]
          simp [mergeD])
        go_wp2_with (fail)
        go_ret
        rw [HE.out]
        exact ⟨A, c, rfl, (hF.out.fresh (w := w) hgw HG.out.size).gro (by repeat (first | with_reducible exact Gro.refl _ | with_reducible exact Gro.refl_drew _ _ _ | with_reducible exact Gro.refl_drewN _ _ _ _ | assumption | with_reducible apply Gro.more | with_reducible apply Gro.alloc | with_reducible apply Gro.drew | with_reducible apply Gro.drewN)), HG.out.trans (by repeat (first | with_reducible exact Gro.refl _ | with_reducible exact Gro.refl_drew _ _ _ | with_reducible exact Gro.refl_drewN _ _ _ _ | assumption | with_reducible apply Gro.more | with_reducible apply Gro.alloc | with_reducible apply Gro.drew | with_reducible apply Gro.drewN))⟩
end Go.Proofs.YtdlkoffandhclaaGreatDoor
namespace Go.Proofs.YtdlkoffandhclaaGreatDoor
open Go.RowKit
@[go_sem] theorem binOp_string_leq (t : TypeId) (a b : ByteArray) : binOp .leq t (.string a) (.string b) = pure (.bool (Op.bytesLess a.toList b.toList || (a.toList == b.toList))) := by simp [binOp, Op.stringOp]
end Go.Proofs.YtdlkoffandhclaaGreatDoor
namespace Go.Proofs.YtdlkoffandhclaaGreatDoor
open Go.RowKit
theorem returns_and_shaped {H : Type} {enc : TypeId × Value → H} {a : Assume} {C : Checked} {os : Os} {f : FuncId} {fn : Func} {s : ChangeSpec} {conds : List PathCond} {apart fresh handsOn again : Bool} {X : World → Array Value → Prop}
    (hX : ∀ (w w' : World) (args : Array Value), w.heap = w'.heap → X w args → X w' args)
    (own : ownKnob C.prog.godebug = none) (started : os.Started) (noInit : C.prog.inits.idxOf? f = none) (hfn : C.prog.funcs[f]? = some fn)
    (witness : ∃ (w : World) (tape : Tape) (i : Input), w.os = os ∧ (w.forCall tape i).Shaped C.prog ∧ i.vars = [] ∧ Input.okWide C.prog (w.forCall tape i) .any w.heap.size f i ∧
      ((s.pre enc C.prog fn conds apart (w.forCall tape i).memory i.args ∧ X (w.forCall tape i).memory i.args) ∧ sizedMet enc C.prog fn (OpenSpec.ofChange s) apart (w.forCall tape i).memory i.args) ∧ a.holds C.prog (lone (Frame.enter C.prog f i.args .normal) [] (w.forCall tape i)))
    (contract : ∀ (W : World) (base : Nat) (args : Array Value) (ds gs : List (DataW H)) (before : List MemPlace),
      (∀ (j : Nat) t v, fn.params[j]? = some t → args[j]? = some v → Value.okWide C.prog W .any base t v) →
      DataW.Whole enc C.prog fn.params.toList s.vars apart W args.toList ds gs before →
      conds.all (PathCond.test C.prog ⟨fn.params.toList, ds, s.plain.varTypes C.prog, gs⟩) = true →
      (DataW.weightsEach C.prog (fn.params.toList ++ s.plain.varTypes C.prog) (ds ++ gs)).all (· ≤ reachBytes) = true → X W args → W.ShapedOpen C.prog →
      a.holds C.prog (lone (Frame.enter C.prog f args .normal) [] W) →
      Calls C.prog f args W fun e W' => ∃ v, e = .returned v ∧ s.post enc C.prog fn apart fresh handsOn again W args v W') :
    ReturnsInHanded a C os f .any (fun w args => (s.pre enc C.prog fn conds apart w args ∧ X w args) ∧ sizedMet enc C.prog fn (OpenSpec.ofChange s) apart w args) (s.post enc C.prog fn apart fresh handsOn again) := by
  refine returnsInHanded_of_calls own started noInit witness ?_
  intro w tape i _ hsh _ hok hpre hholds
  obtain ⟨_, _, _, fn', hfn', _, _, _, _, hval⟩ := hok
  have e : fn' = fn := Option.some.inj (hfn'.symm.trans hfn)
  subst e
  obtain ⟨⟨⟨ds, gs, before, hw, hc⟩, hx⟩, hz⟩ := hpre
  have hw' := DataW.Whole.of_heap (w' := w.forCall tape i) (by rfl) hw
  refine (contract (w.forCall tape i) w.heap.size i.args ds gs before hval hw' hc (hz.weights hw) (hX _ _ _ (by rfl) hx) hsh hholds).mono fun e W' ⟨v, he, hp⟩ => ?_
  subst he
  exact ChangeSpec.post_blind hp
theorem max_len {W : World} (h : W.ShapedOpen Tryz.prog) : ∃ m, W.cell? ⟨0, 0, none⟩ = some (.int .i64 m) := Tryz.laysM146.s1_3 W h
end Go.Proofs.YtdlkoffandhclaaGreatDoor
namespace Go.Proofs.YtdlkoffandhclaaGreatDoor.fnDifferences
open Go.ChangeShapes Go.WideShapes Go.ChangeAt Go.RowKit
open Go.ChangeMaps (open_string shut_string)
theorem own : ownKnob Tryz.prog.godebug = none := by kernel_rfl
theorem laidOut : laidOutB Tryz.prog = true := by kernel_rfl
set_option maxRecDepth 100000 in
set_option maxHeartbeats 8000000 in
theorem walk (w : World) (v : Value) (xs : List UInt8) (hx : (byteT.sl 5).R w w.heap.size [v] xs) {m : Int} (hm : w.cell? ⟨0, 0, none⟩ = some (.int .i64 m)) :
    Calls Tryz.prog 5 #[v] w fun e w' => e = .returned (.bool true) ∧ Gro w w' := by
  have HM0 := Lib.hid hm
  clear hm
  obtain ⟨A, c, rfl, hxl, hcm⟩ := sl_at hx
  by_cases hb : xs.length ≤ 1048576
  case neg =>
    have hb2 := Lib.hid (show decide (1048576 < (xs.length : Int)) = true from decide_eq_true (by omega))
    go_enter Tryz.func5, Tryz.ntmps5
    go_wp2_with (go_at_call 15; refine (big_l _ _ _ _).mono ?_; rw [hb2.out]; rintro e w1 ⟨rfl, os1, d1, rfl⟩)
    go_ret
    exact ⟨rfl, (by repeat (first | with_reducible exact Gro.refl _ | with_reducible exact Gro.refl_drew _ _ _ | with_reducible exact Gro.refl_drewN _ _ _ _ | assumption | with_reducible apply Gro.more | with_reducible apply Gro.alloc | with_reducible apply Gro.drew | with_reducible apply Gro.drewN))⟩
  have hb2 := Lib.hid (show decide (1048576 < (xs.length : Int)) = false from decide_eq_false (by omega))
  go_enter Tryz.func5, Tryz.ntmps5
  go_wp2_with (go_at_call 15; refine (big_l _ _ _ _).mono ?_; rw [hb2.out]; rintro e w1 ⟨rfl, os1, d1, rfl⟩)
  refine (profs_s (Ty.up _ hx (by repeat (first | with_reducible exact Gro.refl _ | with_reducible exact Gro.refl_drew _ _ _ | with_reducible exact Gro.refl_drewN _ _ _ _ | assumption | with_reducible apply Gro.more | with_reducible apply Gro.alloc | with_reducible apply Gro.drew | with_reducible apply Gro.drewN))) (by omega)).mono ?_
  rintro e W2 ⟨p, q, Ap0, cp0, Ap1, cp1, Aq0, cq0, Aq1, cq1, rfl, hp, hq, hG2, hRp, hRq⟩
  have hGw : Gro w W2 := (Gro.more (Gro.refl w) os1 d1).trans hG2
  clear hG2
  have hpn := hp.2.2
  have hqn := hq.2.2
  obtain ⟨d, d2, r, b, u, ed, ed2, epp, er, eb, eu, s1, s2, hne, hso, hdl, hdl2, hdz, hdz2, f1, f2, f3, nr, nb, nu⟩ := diffs_all hp hq
  have ED := Lib.hid ed
  have ED2 := Lib.hid ed2
  have EPP := Lib.hid epp
  have Er := Lib.hid er
  have EB := Lib.hid eb
  have EU := Lib.hid eu
  have S1 := Lib.hid s1
  have S2 := Lib.hid s2
  have HNE := Lib.hid hne
  have HSO := Lib.hid hso
  have HDZ := Lib.hid (show ∀ x ∈ d, x.Stack.size ≤ 1073741824 from fun x hx => by have := hdz x hx; omega)
  have HDZ2 := Lib.hid (show ∀ x ∈ d2, x.Stack.size ≤ 1073741824 from fun x hx => by have := hdz2 x hx; omega)
  have hpn2 : p.Stacks.Nodes.length ≤ 549755813888 := by omega
  have hqn2 : q.Stacks.Nodes.length ≤ 549755813888 := by omega
  have f1' : frSum (keepE d (entriesOf p) ++ addE d) ≤ 500000000000 := by omega
  have f2' : frSum (keepE d2 (entriesOf q) ++ addE d2) ≤ 500000000000 := by omega
  have f3' : frSum (keepE d (entriesOf q) ++ addE d) ≤ 500000000000 := by omega
  have hdd : (decide (d = []) == ((d.length : Int) == 0)) = true := by
    cases d with
    | nil => rfl
    | cons a l => simp; omega
  have HDD := Lib.hid hdd
  clear ed ed2 epp er eb eu s1 s2 hne hso hdz hdz2 f1 f2 f3 hp hq hdd
  go_wp2_with (fail)
  obtain ⟨np, hnp⟩ : ∃ np, W2.heap.size = np := ⟨_, rfl⟩
  have Bp := (PB.new hRp hnp).up (show Gro _ ((W2.alloc (.cells #[.slice Ap0 p.Stacks.Nodes.length cp0, .slice Ap1 p.Counts.length cp1] 33)).alloc (.cells #[.slice Aq0 q.Stacks.Nodes.length cq0, .slice Aq1 q.Counts.length cq1] 33)) from (by repeat (first | with_reducible exact Gro.refl _ | with_reducible exact Gro.refl_drew _ _ _ | with_reducible exact Gro.refl_drewN _ _ _ _ | assumption | with_reducible apply Gro.more | with_reducible apply Gro.alloc | with_reducible apply Gro.drew | with_reducible apply Gro.drewN)))
  have Bq : PB ((W2.alloc (.cells #[.slice Ap0 p.Stacks.Nodes.length cp0, .slice Ap1 p.Counts.length cp1] 33)).alloc (.cells #[.slice Aq0 q.Stacks.Nodes.length cq0, .slice Aq1 q.Counts.length cq1] 33)) (np + 1) q Aq0 cq0 Aq1 cq1 := PB.new (Ty.up _ hRq (by repeat (first | with_reducible exact Gro.refl _ | with_reducible exact Gro.refl_drew _ _ _ | with_reducible exact Gro.refl_drewN _ _ _ _ | assumption | with_reducible apply Gro.more | with_reducible apply Gro.alloc | with_reducible apply Gro.drew | with_reducible apply Gro.drewN))) (by rw [World.size_alloc, hnp])
  have G0 : Gro w ((W2.alloc (.cells #[.slice Ap0 p.Stacks.Nodes.length cp0, .slice Ap1 p.Counts.length cp1] 33)).alloc (.cells #[.slice Aq0 q.Stacks.Nodes.length cq0, .slice Aq1 q.Counts.length cq1] 33)) := (by repeat (first | with_reducible exact Gro.refl _ | with_reducible exact Gro.refl_drew _ _ _ | with_reducible exact Gro.refl_drewN _ _ _ _ | assumption | with_reducible apply Gro.more | with_reducible apply Gro.alloc | with_reducible apply Gro.drew | with_reducible apply Gro.drewN))
  rw [hnp]
  generalize ((W2.alloc (.cells #[.slice Ap0 p.Stacks.Nodes.length cp0, .slice Ap1 p.Counts.length cp1] 33)).alloc (.cells #[.slice Aq0 q.Stacks.Nodes.length cq0, .slice Aq1 q.Counts.length cq1] 33)) = Z0 at Bp Bq G0 ⊢
  clear hRp hRq hGw hnp
  obtain ⟨yp0, yp1, ypl⟩ := Bp.cells
  obtain ⟨yq0, yq1, yql⟩ := Bq.cells
  refine (diff_i (p := p) (q := q) Bp.nodes Bp.counts hpn2 Bq.nodes Bq.counts hqn2).mono ?_
  rw [ED.out]
  rintro e w1 ⟨Ad, cd, rfl, hFd, os1, d1, rfl⟩
  go_wp2_with (fail)
  have hRd := hFd.read
  have hG1 : Gro Z0 (gro Z0 os1 d1) := Gro.of _ _ _
  have Bp' := Bp.up hG1
  have Bq' := Bq.up hG1
  have G1 := G0.trans hG1
  generalize gro Z0 os1 d1 = Z1 at hRd Bp' Bq' G1 ⊢
  clear hFd hG1 Bp Bq G0 yp0 yp1 ypl yq0 yq1 yql
  obtain ⟨yp0, yp1, ypl⟩ := Bp'.cells
  obtain ⟨yq0, yq1, yql⟩ := Bq'.cells
  refine (apply_i (p := p) (ds := d) Bp'.nodes Bp'.counts hRd (by omega) (by omega) HDZ.out f1' (Gro.cell G1 HM0.out)).mono ?_
  rw [Er.out]
  rintro e w2 ⟨Ar0, cr0, Ar1, cr1, rfl, hF, os2, d3, rfl⟩
  go_wp2_with (fail)
  obtain ⟨nr', hnr⟩ : ∃ nr', Z1.heap.size + os2.size = nr' := ⟨_, rfl⟩
  have Br := PB.new (X := gro Z1 os2 d3) hF.read (n := nr') (by rw [gro_size]; exact hnr)
  have hG' : Gro Z1 ((gro Z1 os2 d3).alloc (.cells #[.slice Ar0 r.Stacks.Nodes.length cr0, .slice Ar1 r.Counts.length cr1] 33)) := (by repeat (first | with_reducible exact Gro.refl _ | with_reducible exact Gro.refl_drew _ _ _ | with_reducible exact Gro.refl_drewN _ _ _ _ | assumption | with_reducible apply Gro.more | with_reducible apply Gro.alloc | with_reducible apply Gro.drew | with_reducible apply Gro.drewN))
  rw [hnr]
  have Bp := Bp'.up hG'
  have Bq := Bq'.up hG'
  have hRd2 := Ty.up _ hRd hG'
  have G2 := G1.trans hG'
  clear yp0 yp1 ypl yq0 yq1 yql Bp' Bq' G1 hF hRd
  generalize ((gro Z1 os2 d3).alloc (.cells #[.slice Ar0 r.Stacks.Nodes.length cr0, .slice Ar1 r.Counts.length cr1] 33)) = Z2 at Bp Bq Br hRd2 G2 ⊢
  clear hG' hnr
  obtain ⟨yp0, yp1, ypl⟩ := Bp.cells
  obtain ⟨yq0, yq1, yql⟩ := Bq.cells
  go_cut [8, 9] from 29 to 37 (fun a b' wx => ∃ (bx : Nat) (Ab0 : Option Addr) (cb0 : Nat) (Ab1 : Option Addr) (cb1 : Nat), a = .pointer (some ⟨bx, 0, none⟩) ∧ b' = .bool true ∧ wx.cell? ⟨bx, 0, none⟩ = some (.slice Ab0 b.Stacks.Nodes.length cb0) ∧ wx.cell? ⟨bx, 1, none⟩ = some (.slice Ab1 b.Counts.length cb1) ∧ bx < wx.heap.size ∧ Gro Z2 wx ∧ tProfile.R wx wx.heap.size [.slice Ab0 b.Stacks.Nodes.length cb0, .slice Ab1 b.Counts.length cb1] b)
  case first =>
    go_region_held3 (fun w' => w'.cell? ⟨np, 0, none⟩ = some (.slice Ap0 p.Stacks.Nodes.length cp0) ∧ w'.cell? ⟨np, 1, none⟩ = some (.slice Ap1 p.Counts.length cp1) ∧ w'.cell? ⟨np + 1, 0, none⟩ = some (.slice Aq0 q.Stacks.Nodes.length cq0) ∧ w'.cell? ⟨np + 1, 1, none⟩ = some (.slice Aq1 q.Counts.length cq1)) ((repeat' apply And.intro) <;> (first | ((repeat (first | assumption | with_reducible refine gro_keeps ?_ _ _ | with_reducible refine alloc_keeps ?_ _ | with_reducible refine drew_keeps ?_)); done) | (simp [go_sem]; done))) (first
      | (go_at_call 22; (with_reducible refine (diff_i (p := q) (q := p) (Ty.up _ Bq.nodes (by repeat (first | with_reducible exact Gro.refl _ | with_reducible exact Gro.refl_drew _ _ _ | with_reducible exact Gro.refl_drewN _ _ _ _ | assumption | with_reducible apply Gro.more | with_reducible apply Gro.alloc | with_reducible apply Gro.drew | with_reducible apply Gro.drewN))) (Ty.up _ Bq.counts (by repeat (first | with_reducible exact Gro.refl _ | with_reducible exact Gro.refl_drew _ _ _ | with_reducible exact Gro.refl_drewN _ _ _ _ | assumption | with_reducible apply Gro.more | with_reducible apply Gro.alloc | with_reducible apply Gro.drew | with_reducible apply Gro.drewN))) hqn2 (Ty.up _ Bp.nodes (by repeat (first | with_reducible exact Gro.refl _ | with_reducible exact Gro.refl_drew _ _ _ | with_reducible exact Gro.refl_drewN _ _ _ _ | assumption | with_reducible apply Gro.more | with_reducible apply Gro.alloc | with_reducible apply Gro.drew | with_reducible apply Gro.drewN))) (Ty.up _ Bp.counts (by repeat (first | with_reducible exact Gro.refl _ | with_reducible exact Gro.refl_drew _ _ _ | with_reducible exact Gro.refl_drewN _ _ _ _ | assumption | with_reducible apply Gro.more | with_reducible apply Gro.alloc | with_reducible apply Gro.drew | with_reducible apply Gro.drewN))) hpn2).mono ?_); rw [ED2.out]; rintro e w3 ⟨Ae, ce, rfl, hFe, os3, d4, rfl⟩)
      | (go_at_call 23; (with_reducible refine (apply_i (p := q) (ds := d2) (Ty.up _ Bq.nodes (by repeat (first | with_reducible exact Gro.refl _ | with_reducible exact Gro.refl_drew _ _ _ | with_reducible exact Gro.refl_drewN _ _ _ _ | assumption | with_reducible apply Gro.more | with_reducible apply Gro.alloc | with_reducible apply Gro.drew | with_reducible apply Gro.drewN))) (Ty.up _ Bq.counts (by repeat (first | with_reducible exact Gro.refl _ | with_reducible exact Gro.refl_drew _ _ _ | with_reducible exact Gro.refl_drewN _ _ _ _ | assumption | with_reducible apply Gro.more | with_reducible apply Gro.alloc | with_reducible apply Gro.drew | with_reducible apply Gro.drewN))) (Ty.up _ hFe.read (by repeat (first | with_reducible exact Gro.refl _ | with_reducible exact Gro.refl_drew _ _ _ | with_reducible exact Gro.refl_drewN _ _ _ _ | assumption | with_reducible apply Gro.more | with_reducible apply Gro.alloc | with_reducible apply Gro.drew | with_reducible apply Gro.drewN))) (by omega) (by omega) HDZ2.out f2' (Gro.cell (G2.trans (by repeat (first | with_reducible exact Gro.refl _ | with_reducible exact Gro.refl_drew _ _ _ | with_reducible exact Gro.refl_drewN _ _ _ _ | assumption | with_reducible apply Gro.more | with_reducible apply Gro.alloc | with_reducible apply Gro.drew | with_reducible apply Gro.drewN))) HM0.out)).mono ?_); rw [EB.out]; rintro e w4 ⟨Ab0, cb0, Ab1, cb1, rfl, hF, os4, d5, rfl⟩))
    all_goals go_wp2_with fail
    all_goals go_meet
    all_goals refine ⟨_, Ab0, cb0, Ab1, cb1, rfl, rfl, by simp [go_sem], by simp [go_sem], by simp <;> omega, (by repeat (first | with_reducible exact Gro.refl _ | with_reducible exact Gro.refl_drew _ _ _ | with_reducible exact Gro.refl_drewN _ _ _ _ | assumption | with_reducible apply Gro.more | with_reducible apply Gro.alloc | with_reducible apply Gro.drew | with_reducible apply Gro.drewN)), ?_⟩
    all_goals exact (hF.frN.same (by repeat (first | with_reducible exact Same.refl _ _ _ | ((with_reducible refine same_hi ?_ ?_) <;> (simp <;> omega)) | ((with_reducible refine same_gro ?_ ?_); rotate_left; (simp <;> omega)) | ((with_reducible refine same_alloc ?_ ?_); rotate_left; (simp <;> omega)) | ((with_reducible refine same_alloc_lo ?_ ?_ ?_); rotate_left; (simp <;> omega); (simp <;> omega)) | with_reducible apply same_drew_l | ((with_reducible refine Same.more ?_ ?_ _ _); rotate_left; simp <;> omega) | ((with_reducible refine Same.alloc ?_ ?_ _); rotate_left; simp <;> omega) | with_reducible apply Same.drew | with_reducible apply Same.drewN))).read
  case rest =>
    obtain ⟨bx, Ab0, cb0, Ab1, cb1, rfl, rfl, zb0, zb1, hbl, hG3, hRb⟩ := hcut
    have Bp3 := Bp.up hG3
    have Bq3 := Bq.up hG3
    have Br3 := Br.up hG3
    have hRd3 := Ty.up _ hRd2 hG3
    have G3 := G2.trans hG3
    clear yp0 yp1 ypl yq0 yq1 yql Bp Bq Br G2 hRd2 hG3
    obtain ⟨yp0, yp1, ypl⟩ := Bp3.cells
    obtain ⟨yq0, yq1, yql⟩ := Bq3.cells
    obtain ⟨yr0, yr1, yrl⟩ := Br3.cells
    obtain ⟨V, hV⟩ : ∃ V, V = wc := ⟨_, rfl⟩
    subst hV
    go_wp2_with (fail)
    go_loopw [10] (fun a wr => ∃ (k : Nat), a = .int .i64 k ∧ k ≤ d.length ∧ Hid (Gro V wr)) (fun a _ => d.length - (intOf a).toNat)
    case atStart => exact ⟨0, rfl, by omega, Lib.hid (Gro.refl _)⟩
    case round =>
      obtain ⟨k, rfl, hk, hG⟩ := hrel
      obtain ⟨os, d9, rfl⟩ := hG.out
      clear hG
      by_cases hlt : k < d.length
      · obtain ⟨g, off, x, hAe, hgb, hxk, hx0, hx1, hx2, bx0, bx1, bx2⟩ := atDelta hRd3 hlt
        subst hAe
        have hc0 := gro_keeps hx0 os d9
        have hc1 := gro_keeps hx1 os d9
        have hc2 := gro_keeps hx2 os d9
        have hxe := HNE.out x (List.mem_of_getElem? hxk)
        have hxb : (x.Before == x.After) = false := by simp [hxe]
        have HX := Lib.hid hxk
        have hjl : (k : Int) < (d.length : Int) := by omega
        clear hxk hxe
        by_cases hj0 : k = 0
        · have hj1 : ¬ 0 < k := by omega
          have hj2 : ¬ (0 : Int) < (k : Int) := by omega
          have hj3 : decide (0 < k) = false := decide_eq_false hj1
          have hj4 : decide ((0 : Int) < (k : Int)) = false := decide_eq_false hj2
          have HJ := Lib.hid hj0
          clear hj0
          go_wp2_with (fail)
          go_quiet (fail)
          go_wp2_with (fail)
          go_roundw
          case rel => exact ⟨k + 1, by go_num, by omega, Lib.hid (by repeat (first | with_reducible exact Gro.refl _ | with_reducible exact Gro.refl_drew _ _ _ | with_reducible exact Gro.refl_drewN _ _ _ _ | assumption | with_reducible apply Gro.more | with_reducible apply Gro.alloc | with_reducible apply Gro.drew | with_reducible apply Gro.drewN))⟩
          case measure => simp [intOf]; omega
        · obtain ⟨i, hji⟩ : ∃ i, k = i + 1 := ⟨k - 1, by omega⟩
          have hj1 : 0 < k := by omega
          have hj2 : (0 : Int) < (k : Int) := by omega
          have hj3 : decide (0 < k) = true := decide_eq_true hj1
          have hj4 : decide ((0 : Int) < (k : Int)) = true := decide_eq_true hj2
          have hil : (i : Int) < (d.length : Int) := by omega
          obtain ⟨g', off', y, hAe, hgb', hyk, hy0, hy1, hy2, by0, by1, by2⟩ := atDelta hRd3 (k := i) (by omega)
          injection hAe with hAe
          injection hAe with e1 e2
          subst e1 e2
          have hd0 := gro_keeps hy0 os d9
          have hasc := HSO.out i y x hyk (by rw [← hji]; exact HX.out)
          have hbl2 : Op.bytesLess x.Stack.toList y.Stack.toList = false := by rw [bytesLess_dec, toList_dat, toList_dat]; exact decide_eq_false (fun h => bl_irrefl _ (bl_trans h hasc))
          have hbe : (x.Stack.toList == y.Stack.toList) = false := by rw [str_eqb]; exact decide_eq_false (fun h => by rw [h] at hasc; exact bl_irrefl _ hasc)
          have hbo : (Op.bytesLess x.Stack.toList y.Stack.toList || (x.Stack.toList == y.Stack.toList)) = false := by rw [hbl2, hbe]; rfl
          have hw2 : IntKind.i64.wrap ((k : Int) - 1) = (i : Int) := (IntWalk.i64_in _ ⟨by omega, by omega⟩).trans (by omega)
          have HJI := Lib.hid hji
          clear hyk hasc hji hj0
          go_wp2_with (fail)
          go_quiet (fail)
          go_wp2_with (fail)
          go_roundw
          case rel => exact ⟨k + 1, by go_num, by omega, Lib.hid (by repeat (first | with_reducible exact Gro.refl _ | with_reducible exact Gro.refl_drew _ _ _ | with_reducible exact Gro.refl_drewN _ _ _ _ | assumption | with_reducible apply Gro.more | with_reducible apply Gro.alloc | with_reducible apply Gro.drew | with_reducible apply Gro.drewN))⟩
          case measure => simp [intOf]; omega
      · obtain rfl : k = d.length := by omega
        have x1 := gro_keeps yp0 os d9
        have x2 := gro_keeps yp1 os d9
        have x3 := gro_keeps yq0 os d9
        have x4 := gro_keeps yq1 os d9
        have x5 := gro_keeps yr0 os d9
        have x6 := gro_keeps yr1 os d9
        have x7 := gro_keeps zb0 os d9
        have x8 := gro_keeps zb1 os d9
        have hdd := HDD.out
        go_wp2_with (first
          | (go_at_call 23; (with_reducible refine (apply_i (p := q) (ds := d) (Ty.up _ Bq3.nodes (by repeat (first | with_reducible exact Gro.refl _ | with_reducible exact Gro.refl_drew _ _ _ | with_reducible exact Gro.refl_drewN _ _ _ _ | assumption | with_reducible apply Gro.more | with_reducible apply Gro.alloc | with_reducible apply Gro.drew | with_reducible apply Gro.drewN))) (Ty.up _ Bq3.counts (by repeat (first | with_reducible exact Gro.refl _ | with_reducible exact Gro.refl_drew _ _ _ | with_reducible exact Gro.refl_drewN _ _ _ _ | assumption | with_reducible apply Gro.more | with_reducible apply Gro.alloc | with_reducible apply Gro.drew | with_reducible apply Gro.drewN))) (Ty.up _ hRd3 (by repeat (first | with_reducible exact Gro.refl _ | with_reducible exact Gro.refl_drew _ _ _ | with_reducible exact Gro.refl_drewN _ _ _ _ | assumption | with_reducible apply Gro.more | with_reducible apply Gro.alloc | with_reducible apply Gro.drew | with_reducible apply Gro.drewN))) (by omega) (by omega) HDZ.out f3' (Gro.cell (G3.trans (by repeat (first | with_reducible exact Gro.refl _ | with_reducible exact Gro.refl_drew _ _ _ | with_reducible exact Gro.refl_drewN _ _ _ _ | assumption | with_reducible apply Gro.more | with_reducible apply Gro.alloc | with_reducible apply Gro.drew | with_reducible apply Gro.drewN))) HM0.out)).mono ?_); rw [EU.out]; rintro e w4 ⟨Au0, cu0, Au1, cu1, rfl, hFu, os4, d5, rfl⟩)
          | (go_at_call 19; (with_reducible refine (samep_i (p := r) (q := q) (Ty.up _ Br3.nodes (by repeat (first | with_reducible exact Gro.refl _ | with_reducible exact Gro.refl_drew _ _ _ | with_reducible exact Gro.refl_drewN _ _ _ _ | assumption | with_reducible apply Gro.more | with_reducible apply Gro.alloc | with_reducible apply Gro.drew | with_reducible apply Gro.drewN))) (Ty.up _ Br3.counts (by repeat (first | with_reducible exact Gro.refl _ | with_reducible exact Gro.refl_drew _ _ _ | with_reducible exact Gro.refl_drewN _ _ _ _ | assumption | with_reducible apply Gro.more | with_reducible apply Gro.alloc | with_reducible apply Gro.drew | with_reducible apply Gro.drewN))) (by omega) (Ty.up _ Bq3.nodes (by repeat (first | with_reducible exact Gro.refl _ | with_reducible exact Gro.refl_drew _ _ _ | with_reducible exact Gro.refl_drewN _ _ _ _ | assumption | with_reducible apply Gro.more | with_reducible apply Gro.alloc | with_reducible apply Gro.drew | with_reducible apply Gro.drewN))) (Ty.up _ Bq3.counts (by repeat (first | with_reducible exact Gro.refl _ | with_reducible exact Gro.refl_drew _ _ _ | with_reducible exact Gro.refl_drewN _ _ _ _ | assumption | with_reducible apply Gro.more | with_reducible apply Gro.alloc | with_reducible apply Gro.drew | with_reducible apply Gro.drewN))) (by omega)).mono ?_); rw [S1.out]; rintro e w5 ⟨rfl, os5, d6, rfl⟩)
          | (go_at_call 19; (with_reducible refine (samep_i (p := b) (q := p) (Ty.up _ (rdProf hRb).1 (by repeat (first | with_reducible exact Gro.refl _ | with_reducible exact Gro.refl_drew _ _ _ | with_reducible exact Gro.refl_drewN _ _ _ _ | assumption | with_reducible apply Gro.more | with_reducible apply Gro.alloc | with_reducible apply Gro.drew | with_reducible apply Gro.drewN))) (Ty.up _ (rdProf hRb).2 (by repeat (first | with_reducible exact Gro.refl _ | with_reducible exact Gro.refl_drew _ _ _ | with_reducible exact Gro.refl_drewN _ _ _ _ | assumption | with_reducible apply Gro.more | with_reducible apply Gro.alloc | with_reducible apply Gro.drew | with_reducible apply Gro.drewN))) (by omega) (Ty.up _ Bp3.nodes (by repeat (first | with_reducible exact Gro.refl _ | with_reducible exact Gro.refl_drew _ _ _ | with_reducible exact Gro.refl_drewN _ _ _ _ | assumption | with_reducible apply Gro.more | with_reducible apply Gro.alloc | with_reducible apply Gro.drew | with_reducible apply Gro.drewN))) (Ty.up _ Bp3.counts (by repeat (first | with_reducible exact Gro.refl _ | with_reducible exact Gro.refl_drew _ _ _ | with_reducible exact Gro.refl_drewN _ _ _ _ | assumption | with_reducible apply Gro.more | with_reducible apply Gro.alloc | with_reducible apply Gro.drew | with_reducible apply Gro.drewN))) (by omega)).mono ?_); rw [S2.out]; rintro e w6 ⟨rfl, os6, d7, rfl⟩)
          | (go_at_call 22; (with_reducible refine (diff_i (p := p) (q := p) (Ty.up _ Bp3.nodes (by repeat (first | with_reducible exact Gro.refl _ | with_reducible exact Gro.refl_drew _ _ _ | with_reducible exact Gro.refl_drewN _ _ _ _ | assumption | with_reducible apply Gro.more | with_reducible apply Gro.alloc | with_reducible apply Gro.drew | with_reducible apply Gro.drewN))) (Ty.up _ Bp3.counts (by repeat (first | with_reducible exact Gro.refl _ | with_reducible exact Gro.refl_drew _ _ _ | with_reducible exact Gro.refl_drewN _ _ _ _ | assumption | with_reducible apply Gro.more | with_reducible apply Gro.alloc | with_reducible apply Gro.drew | with_reducible apply Gro.drewN))) hpn2 (Ty.up _ Bp3.nodes (by repeat (first | with_reducible exact Gro.refl _ | with_reducible exact Gro.refl_drew _ _ _ | with_reducible exact Gro.refl_drewN _ _ _ _ | assumption | with_reducible apply Gro.more | with_reducible apply Gro.alloc | with_reducible apply Gro.drew | with_reducible apply Gro.drewN))) (Ty.up _ Bp3.counts (by repeat (first | with_reducible exact Gro.refl _ | with_reducible exact Gro.refl_drew _ _ _ | with_reducible exact Gro.refl_drewN _ _ _ _ | assumption | with_reducible apply Gro.more | with_reducible apply Gro.alloc | with_reducible apply Gro.drew | with_reducible apply Gro.drewN))) hpn2).mono ?_); rw [EPP.out]; rintro e w7 ⟨Ae, ce, rfl, hFe, os7, d8, rfl⟩))
        go_ret
        exact ⟨rfl, (by repeat (first | with_reducible exact Gro.refl _ | with_reducible exact Gro.refl_drew _ _ _ | with_reducible exact Gro.refl_drewN _ _ _ _ | assumption | with_reducible apply Gro.more | with_reducible apply Gro.alloc | with_reducible apply Gro.drew | with_reducible apply Gro.drewN))⟩

set_option maxRecDepth 100000 in
theorem lifted (os : Os) (started : os.Started) (H : Type) (enc : TypeId × Value → H) :
    ReturnsInHanded {} Tryz.checked os 5 .any (fun w args => (Rows.fnDifferencesSpec.pre enc Tryz.prog Tryz.f5 Rows.fnDifferencesRow.domain false w args ∧ laidMetH Tryz.prog Rows.fnDifferencesRow.laid w) ∧ sizedMet enc Tryz.prog Tryz.f5 (OpenSpec.ofChange Rows.fnDifferencesSpec) false w args) (Rows.fnDifferencesSpec.post enc Tryz.prog Tryz.f5 false true false false) := by
  refine returns_and_shaped (C := Tryz.checked) (X := fun w _ => laidMetH Tryz.prog Rows.fnDifferencesRow.laid w) (fun _ _ _ hh h => h.of_heap hh) own started (by kernel_rfl) Tryz.func5
    (ChangeSpec.witness_shaped (enc := enc) (C := Tryz.checked) (os := os) (X := fun w _ => laidMetH Tryz.prog Rows.fnDifferencesRow.laid w) false (World.laidAll Tryz.prog os Rows.fnDifferencesRow.laid) #[.slice none 0 0] 8 (World.laidAll_os _ _ _) (World.shaped_of_ZipB (by kernel_rfl) (by kernel_rfl)) (by kernel_rfl) (by kernel_rfl) (by kernel_rfl) (by rw [MakeChecks.laidMetH_plain _ _ _ (by kernel_rfl)]; exact laidMet_laidAll _ (by kernel_rfl) (by kernel_rfl))) ?_
  intro W base args ds gs before hval0 hW _ _ hL hSH _
  obtain ⟨mlen, hmlen⟩ := max_len hSH
  have hval : ∀ (j : Nat) t v, Tryz.f5.params[j]? = some t → args[j]? = some v → Value.okWide Tryz.prog W .any base t v := hval0
  have hW' := hW
  obtain ⟨p, q, hA0, hV, rfl, hfz, hnd⟩ := hW
  have hA : DataW.TrodAll enc Tryz.prog W 0 (fun _ => true) true Tryz.f5.params.toList args.toList ds p := hA0
  rw [Tryz.params5] at hA hval
  obtain ⟨v0, vs0, d0, ds0, p0, q0, hargs, rfl, rfl, h0, r0⟩ := trodAll_cons hA
  obtain ⟨rfl, rfl, rfl⟩ := trodAll_nil r0
  obtain rfl : args = #[v0] := by cases args; simp_all
  obtain ⟨rfl, rfl⟩ := trodVars_none hV
  have k0 := h0
  have lt0 : ∀ x ∈ p0, x.block < W.heap.size := by obtain ⟨m, hm⟩ := k0; exact DataW.trod_lt m _ _ _ hm
  obtain ⟨a0, w0⟩ := arg_open (opens_sl (e' := 5) Tryz.underlying40 (by kernel_rfl) (by decide) (opens_byte Tryz.underlying5)) h0
  rw [arg_slice Tryz.underlying40 (hval 0 40 v0 rfl rfl)] at w0
  clear hA0 hval0
  refine (walk W v0 a0 w0 hmlen).mono fun e W' ⟨he, hgro⟩ => ?_
  subst he
  have bel := hgro.below
  exact ⟨_, rfl, _, _, _, [], _, [], hW', trodAll_mk1 (shut_bool Tryz.underlying4 _), (trodAll_cons_mk (Below.trod laidOut (by kernel_rfl) (of_decide_eq_true (by kernel_rfl)) k0 bel lt0) trodAll_mk0), rfl, bel.frame _, fun h => by cases h⟩
theorem over : Rows.fnDifferencesRow.holds Tryz.pinned (OpenSpec.ofChange Rows.fnDifferencesSpec) :=
  OpenClaim.holds_of_wide 5 Tryz.f5 rfl rfl rfl rfl rfl rfl rfl ⟨rfl, rfl, rfl, rfl, rfl⟩ rfl rfl rfl rfl rfl (by kernel_rfl) Tryz.func5 (by kernel_rfl)
    (of_decide_eq_true (by kernel_rfl)) (by unfold Func.isWrapper; first | (rw [if_pos (by decide +kernel)]; kernel_rfl) | (rw [if_neg (by decide +kernel)]; exact ⟨rfl, rfl⟩))
    (fun os started H enc _ => lifted os started H enc)
/-- THE STATEMENT: the tied card -/
theorem proved : Rows.FnDifferencesCardSaid :=
  Claim7.holds_tied_plain_at .later [] [.data, .data, .data, .data, .pinned] true (true, "223fded4ff9f1d09fa78e75d94c7dee0f8fbcb9fe27840c39f670ffa5240e8df") false
    over (fun _ h => by cases h) (by kernel_rfl) (fun _ h => by cases h) fnDifferences_row_tie rfl ⟨rfl, rfl⟩ (by kernel_rfl) rfl
    (fun f fn hf hfn => by
      obtain rfl : f = 5 := Option.some.inj ((show Tryz.prog.funcNamed "loop.example/g03314/laws.FnDifferences" = some 5 by kernel_rfl).symm.trans hf) |>.symm
      obtain rfl : fn = Tryz.f5 := (Option.some.inj (Tryz.func5.symm.trans hfn)).symm
      exact ⟨by kernel_rfl, fun j t ht => by
        rw [Tryz.params5] at ht
        have hm : t ∈ [40] := by simpa using Array.mem_of_getElem? ht
        have hall : ([40].all fun u => !Tryz.prog.wantsStandIn u) = true := by kernel_rfl
        exact (show Tryz.prog.wantsStandIn t = false by simpa using List.all_eq_true.1 hall t hm)⟩)
    (by kernel_rfl)
#print axioms proved
end Go.Proofs.YtdlkoffandhclaaGreatDoor.fnDifferences
