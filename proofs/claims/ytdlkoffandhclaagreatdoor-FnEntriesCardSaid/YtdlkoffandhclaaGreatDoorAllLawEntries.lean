/-
  The law FnEntries answers true for every input: a drawn profile is the one of its entries, which ascend; the input stays. No condition.
-/
import Derived.Test.YtdlkoffandhclaaGreatDoorBytes
import Derived.Test.YtdlkoffandhclaaGreatDoorAppend2
import Derived.Test.YtdlkoffandhclaaGreatDoorBox2
import Derived.Test.YtdlkoffandhclaaGreatDoorOpen
import Derived.BigQuiet
import Derived.Deep.RegionHeld3
import Derived.Test.YtdlkoffandhclaaGreatDoorStacks3
import Derived.Deep.RegionWith
import Derived.Deep.RegionLaw
import Derived.Test.YtdlkoffandhclaaGreatDoorRowsPut
import Derived.Test.YtdlkoffandhclaaGreatDoorPathLaw
import Derived.Test.YtdlkoffandhclaaGreatDoorBackLaw
import Derived.Test.YtdlkoffandhclaaGreatDoorProfile2
import Derived.Test.YtdlkoffandhclaaGreatDoorProfOf
import Derived.Test.YtdlkoffandhclaaGreatDoorLsEntry
import Derived.Test.YtdlkoffandhclaaGreatDoorStacks
import Derived.Test.YtdlkoffandhclaaGreatDoorTidy
import Derived.Test.YtdlkoffandhclaaGreatDoorProg
import Derived.Test.YtdlkoffandhclaaGreatDoorParse3
import Derived.HandedShaped
import Derived.Lay
import Derived.Test.YtdlkoffandhclaaGreatDoorDiffLaw
import Derived.Test.YtdlkoffandhclaaGreatDoorBase
import Derived.Test.YtdlkoffandhclaaGreatDoorRows
import Derived.Test.YtdlkoffandhclaaGreatDoorSameP
import Derived.Test.YtdlkoffandhclaaGreatDoorEnts2
import Derived.Test.YtdlkoffandhclaaGreatDoorTie
import Derived.Test.YtdlkoffandhclaaGreatDoorCards
import Derived.LaidMore
import Derived.Stop.Joined
import Derived.SevenTiedAt
import Derived.ShutString
set_option linter.unusedVariables false
set_option linter.unusedSimpArgs false
namespace Go.Proofs.YtdlkoffandhclaaGreatDoor
open Go.RowKit
/-- the part below a block number -/
def cut (W : World) (n : Nat) : World := { W with heap := W.heap.extract 0 n }
theorem cut_size {W : World} {n : Nat} (h : n ≤ W.heap.size) : (cut W n).heap.size = n := by
  simp only [cut, Array.size_extract]
  omega
theorem cut_get {W : World} {n i : Nat} (h : n ≤ W.heap.size) (hi : i < n) : (cut W n).heap[i]? = W.heap[i]? := by
  simp only [cut]
  rw [Array.getElem?_extract, if_pos (by omega), Nat.zero_add]
theorem cut_gro {W : World} {n : Nat} (h : n ≤ W.heap.size) : Gro (cut W n) W :=
  Gro.of_below ⟨rfl, rfl, rfl, by rw [cut_size h]; exact h, fun k hk => by rw [cut_size h] at hk; exact (cut_get h hk).symm⟩
theorem Gro.cut {w W : World} {n : Nat} (h : Gro w W) (hn : w.heap.size ≤ n) (h2 : n ≤ W.heap.size) : Gro w (cut W n) := by
  have hb := h.below
  exact Gro.of_below ⟨hb.os, hb.tape, hb.output, by rw [cut_size h2]; exact hn, fun k hk => by rw [cut_get h2 (by omega)]; exact hb.block k hk⟩
theorem cell_up {a b : World} (h : Gro a b) {p : Addr} {v : Value} (hp : a.cell? p = some v) : b.cell? p = some v := by
  obtain ⟨os, d, rfl⟩ := h
  exact gro_keeps hp os d
/-- a cursor's block -/
structure Cur (w W : World) (k : Nat) : Prop where
  lo : w.heap.size ≤ k
  gro : Gro w W
  at_ : ∃ (A : Option Addr) (n c : Nat) (i h : Int) (xs : List UInt8), W.heap[k]? = some (.cells #[.slice A n c, .int .i64 i, .int .i64 h] 107 (0, 0)) ∧ 0 ≤ i ∧ I64 i ∧ I64 h ∧ (byteT.sl 5).R w w.heap.size [.slice A n c] xs
theorem Cur.lt {w W : World} {k : Nat} (h : Cur w W k) : k < W.heap.size := by
  obtain ⟨_, _, _, _, _, _, h1, _⟩ := h.at_
  exact (Array.getElem?_eq_some_iff.1 h1).1
/-- a world that has the cursor's block and grows from the same beginning -/
theorem Cur.to {w W W' : World} {k : Nat} (h : Cur w W k) (hb : W'.heap[k]? = W.heap[k]?) (hg : Gro w W') : Cur w W' k := by
  obtain ⟨A, n, c, i, h', xs, h1, h2⟩ := h.at_
  exact ⟨h.lo, hg, A, n, c, i, h', xs, by rw [hb]; exact h1, h2⟩
theorem Cur.more {w W W' : World} {k : Nat} (h : Cur w W k) (hg : Gro W W') : Cur w W' k := h.to (hg.block h.lt) (h.gro.trans hg)
theorem Cur.only {w W W' : World} {k : Nat} {S : List Nat} (h : Cur w W k) (hs : OnlyS S W W') (hk : k ∉ S) (hS : ∀ b ∈ S, w.heap.size ≤ b) : Cur w W' k := h.to (hs.block k h.lt hk) (hs.gro h.gro hS)
theorem Cur.below {w W W' : World} {k lo : Nat} (h : Cur w W k) (hb : Below lo W W') (hk : k < lo) : Cur w W' k :=
  h.to (hb.block k hk) (Gro.of_below (h.gro.below.trans (hb.mono (by have := h.lo; omega))))
theorem OnlyS.below {S : List Nat} {a W W' : World} {lo : Nat} (h : OnlyS S a W) (hb : Below lo W W') (hl : a.heap.size ≤ lo) : OnlyS S a W' :=
  ⟨hb.os.trans h.os, hb.tape.trans h.tape, hb.output.trans h.output, Nat.le_trans h.size hb.size, fun i hi hn => (hb.block i (by omega)).trans (h.block i hi hn)⟩
theorem FrN.only {α : Type} {T : Ty α} {lo hi k : Nat} {a b : World} {cs : List Value} {x : α} (h : FrN T lo hi a cs x) (hs : OnlyS [k] a b) (hk : k < lo) : FrN T lo hi b cs x := by
  obtain ⟨S, h1, h2, h3⟩ := h
  exact ⟨S, T.keepO h1 (fun j hj => hs.block j (T.ltO h1 j hj) (by have := h3 j hj; simp; omega)), h2, h3⟩
section
variable {α : Type} {T : Ty α} {e : TypeId} {P : Program} {t : TypeId} {bytes : Nat} {ops : Array Oper} {rest : List Oper} {o : Oper} {a : Act} {Q : Exit → Act → World → Prop} {K : Act → World → Prop}
/-- 'append(own, v)' in a world of which the own blocks' beginning alone is known -/
theorem run_append_up (hE : Elem P t e T bytes) {ty : TypeId} {W We : World} {lo hi g cc : Nat} {A : Option Addr} {n c : Nat} {xs : List α} (h : FrN (T.sl e) lo hi W [.slice A n c] xs) (hlo : lo ≤ W.heap.size)
    {ec : List Value} {y : α} (hy : Fresh T We W ec y) (hhi : hi ≤ We.heap.size) (hle : lo ≤ We.heap.size) (hcell : ∀ (j : Nat) (u : Value), ec[j]? = some u → W.cell? ⟨g, j, none⟩ = some u)
    {L : Nat} (hL : L = n + 1) (hb : L * bytes ≤ 140737488355328) (h63 : L ≤ 9223372036854775807) :
    ∃ A' c'' W', (Builtin.append_ #[t, t] ty #[.slice A n c, .slice (some ⟨g, 0, none⟩) 1 cc]).run P W = .ok (.slice A' L c'') W' ∧ Below lo W W' ∧ FrN (T.sl e) lo W'.heap.size W' [.slice A' L c''] (xs ++ [y]) := by
  obtain ⟨S, h1, h2, h3⟩ := h
  have hf : Fre (T.sl e) (cut W lo) hi W [.slice A n c] xs := ⟨S, h1, h2, fun b hb => by rw [cut_size hlo]; exact h3 b hb⟩
  have hg : Gro (cut W lo) W := cut_gro hlo
  obtain ⟨A', c'', W', hrun, ⟨row, hgr, hrow⟩, hF⟩ := run_append_one (P := P) (ty := ty) (W0 := cut W lo) (We := We) (m0 := lo) hE hlo hle hf hy hhi (by rw [cut_size hlo]; exact hle) hcell hL hb h63
  have hg2 := hg.grown hgr (fun k hk => (hrow k hk).1)
  have hb2 := hg2.below
  rw [cut_size hlo] at hb2
  obtain ⟨S2, k1, k2, k3⟩ := hF
  refine ⟨A', c'', W', hrun, ⟨hb2.os, hb2.tape, hb2.output, hgr.size, fun i hi => (hb2.block i hi).trans (cut_get hlo hi)⟩, S2, k1, k2, fun b hb => ⟨?_, (T.sl e).ltO k1 b hb⟩⟩
  rcases k3 b hb with h | h
  · rw [cut_size hlo] at h
    exact h.1
  · exact h
theorem step_append_up {E : Prop} (hgd : o.guard = none) (s x : Operand) (hE : Elem P t e T bytes) (hf : Flat T) {W W1 : World} {lo hi B g cc : Nat} {A : Option Addr} {n c : Nat} {xs : List α} (h : FrN (T.sl e) lo hi W [.slice A n c] xs) (hlo : lo ≤ W.heap.size) (hhi : hi ≤ W.heap.size)
    {ec : List Value} {y : α} (hy : T.R W1 B ec y)
    (ho : o.op = .call { callee := .builtin .append, args := #[s, x], argTypes := #[t, t] }) (hs : a.eval s = .slice A n c) (hx : a.eval x = .slice (some ⟨g, 0, none⟩) 1 cc)
    (hcell : ∀ (j : Nat) (u : Value), ec[j]? = some u → W.cell? ⟨g, j, none⟩ = some u)
    {L : Nat} (hL : L = n + 1) (hb : L * bytes ≤ 140737488355328) (h63 : L ≤ 9223372036854775807)
    (hK : ∀ A' c'' W', Below lo W W' → FrN (T.sl e) lo W'.heap.size W' [.slice A' L c''] (xs ++ [y]) → K (a.put o.dst (.slice A' L c'')) W') : if Region.wanted o (yielded ops a.tmps) = true then Oper.wp P o a W K Q else E := by
  have hw : Region.wanted o (yielded ops a.tmps) = true := by simp [Region.wanted, hgd]
  rw [if_pos hw]
  obtain ⟨A', c'', W', hrun, hbl, hF⟩ := run_append_up (P := P) (ty := o.type) hE h hlo (We := W) (fresh_flat hf hy) hhi hlo hcell hL hb h63
  exact wp_of_run_append s x ho hs hx hrun (hK A' c'' W' hbl hF)
theorem wpList_append_up (hgd : o.guard = none) (s x : Operand) (hE : Elem P t e T bytes) {W We : World} {lo hi g cc : Nat} {A : Option Addr} {n c : Nat} {xs : List α} (h : FrN (T.sl e) lo hi W [.slice A n c] xs) (hlo : lo ≤ W.heap.size)
    {ec : List Value} {y : α} (hy : Fresh T We W ec y) (hhi : hi ≤ We.heap.size) (hle : lo ≤ We.heap.size)
    (ho : o.op = .call { callee := .builtin .append, args := #[s, x], argTypes := #[t, t] }) (hs : a.eval s = .slice A n c) (hx : a.eval x = .slice (some ⟨g, 0, none⟩) 1 cc)
    (hcell : ∀ (j : Nat) (u : Value), ec[j]? = some u → W.cell? ⟨g, j, none⟩ = some u)
    {L : Nat} (hL : L = n + 1) (hb : L * bytes ≤ 140737488355328) (h63 : L ≤ 9223372036854775807)
    (hK : ∀ A' c'' W', Below lo W W' → FrN (T.sl e) lo W'.heap.size W' [.slice A' L c''] (xs ++ [y]) → wpList P ops Q rest (a.put o.dst (.slice A' L c'')) W') : wpList P ops Q (o :: rest) a W :=
  wpList_plain hgd fun K hKK => by
    obtain ⟨A', c'', W', hrun, hbl, hF⟩ := run_append_up (P := P) (ty := o.type) hE h hlo hy hhi hle hcell hL hb h63
    exact wp_of_run_append s x ho hs hx hrun (hKK _ _ (hK A' c'' W' hbl hF))
end
end Go.Proofs.YtdlkoffandhclaaGreatDoor
namespace Go.Proofs.YtdlkoffandhclaaGreatDoor
open Go.RowKit
theorem opens_byte {P : Program} {t : TypeId} (ht : P.underlying t = some (.int .u8)) : Opens P t byteT := by
  intro H enc W spare held fuel cs x h
  obtain ⟨n, rfl, _, hw⟩ := DataW.trod_int ht h
  have h1 : 0 ≤ n ∧ n ≤ 255 := by simpa [Lit.wf, IntKind.min, IntKind.max, IntKind.signed, IntKind.bits] using hw
  exact ⟨_, byte_mkR h1.1 (by omega)⟩
theorem and255 (a : Int) : ∃ n : Nat, bits .and .i64 a 255 = (n : Int) ∧ n < 256 := by
  refine ⟨((BitVec.ofInt 64 a &&& BitVec.ofInt 64 255).toNat), ?_, ?_⟩
  · show IntKind.i64.wrap ((BitVec.ofInt 64 a &&& BitVec.ofInt 64 255).toNat : Int) = _
    rw [BitVec.toNat_and, show (BitVec.ofInt 64 255).toNat = 2 ^ 8 - 1 from rfl, Nat.and_two_pow_sub_one_eq_mod]
    exact IntWalk.i64_in _ ⟨by omega, by omega⟩
  · rw [BitVec.toNat_and, show (BitVec.ofInt 64 255).toNat = 2 ^ 8 - 1 from rfl, Nat.and_two_pow_sub_one_eq_mod]
    omega
theorem cur_cells {W : World} {k : Nat} {a b c : Value} (h : W.heap[k]? = some (.cells #[a, b, c] 107 (0, 0))) :
    W.cell? ⟨k, 0, none⟩ = some a ∧ W.cell? ⟨k, 1, none⟩ = some b ∧ W.cell? ⟨k, 2, none⟩ = some c ∧ (∀ j, W.frozen? ⟨k, j, none⟩ = false) := by
  refine ⟨?_, ?_, ?_, fun j => by simp [World.frozen?, h]⟩
  all_goals
    rw [cell_of_row W k _ _ _ (0, 0) h]
    rfl
theorem and_i64 (a b : Int) : I64 (bits .and .i64 a b) := by
  show I64 (IntKind.i64.wrap _)
  rw [IntKind.wrap_i64]
  constructor <;> omega
theorem wrap64_i64 (n : Int) : I64 (wrap64 n) := by
  unfold wrap64
  constructor <;> omega
/-- the cursor written, and nothing else -/
structure CurS (w W0 W : World) (k : Nat) (A : Option Addr) (n c : Nat) (i h : Int) : Prop where
  lo : w.heap.size ≤ k
  gro : Gro w W
  only : OnlyS [k] W0 W
  blk : W.heap[k]? = some (.cells #[.slice A n c, .int .i64 i, .int .i64 h] 107 (0, 0))
  i0 : 0 ≤ i
  i1 : I64 i
  h1 : I64 h
  read : ∃ xs, (byteT.sl 5).R w w.heap.size [.slice A n c] xs
theorem CurS.out {w W0 W : World} {k : Nat} {A : Option Addr} {n c : Nat} {i h : Int} (H : CurS w W0 W k A n c i h) : Cur w W k ∧ OnlyS [k] W0 W := by
  obtain ⟨xs, hx⟩ := H.read
  exact ⟨⟨H.lo, H.gro, A, n, c, i, h, xs, H.blk, H.i0, H.i1, H.h1, hx⟩, H.only⟩
theorem CurS.seth {w W0 W : World} {k : Nat} {A : Option Addr} {n c : Nat} {i h h' : Int} (H : CurS w W0 W k A n c i h) (hb : I64 h') : CurS w W0 (W.setCell ⟨k, 2, none⟩ (.int .i64 h')) k A n c i h' :=
  ⟨H.lo, H.gro.setRow (p := ⟨k, 2, none⟩) H.lo _, H.only.setCell (p := ⟨k, 2, none⟩) (by simp) _, heap_setCell_at H.blk 2 _, H.i0, H.i1, hb, H.read⟩
theorem CurS.seti {w W0 W : World} {k : Nat} {A : Option Addr} {n c : Nat} {i h i' : Int} (H : CurS w W0 W k A n c i h) (hb0 : 0 ≤ i') (hb : I64 i') : CurS w W0 (W.setCell ⟨k, 1, none⟩ (.int .i64 i')) k A n c i' h :=
  ⟨H.lo, H.gro.setRow (p := ⟨k, 1, none⟩) H.lo _, H.only.setCell (p := ⟨k, 1, none⟩) (by simp) _, heap_setCell_at H.blk 1 _, hb0, hb, H.h1, H.read⟩
theorem CurS.drewN {w W0 W : World} {k : Nat} {A : Option Addr} {n c : Nat} {i h : Int} (H : CurS w W0 W k A n c i h) (m : Nat) : CurS w W0 (W.drewN m) k A n c i h :=
  ⟨H.lo, H.gro.drewN m, H.only.trans ((Gro.drewN (Gro.refl _) m).only _), H.blk, H.i0, H.i1, H.h1, H.read⟩
set_option maxRecDepth 100000 in
theorem byte_s {w W : World} {k : Nat} (hC : Cur w W k) : Calls Tryz.prog 108 #[.pointer (some ⟨k, 0, none⟩)] W fun e W' => ∃ x : Nat, e = .returned (.int .i64 (x : Int)) ∧ x < 256 ∧ Cur w W' k ∧ OnlyS [k] W W' := by
  obtain ⟨hlo, hgr, A, n, c, i, h, xs, hk, hi0, hi1, hh, hx⟩ := hC
  have H0 : CurS w W W k A n c i h := ⟨hlo, hgr, OnlyS.refl _ _, hk, hi0, hi1, hh, xs, hx⟩
  obtain ⟨_, _, hv, hxl, hcm⟩ := sl_at hx
  injection hv with hA hn hc
  subst hA hn hc
  obtain ⟨hc0, hc1, hc2, hfz⟩ := cur_cells hk
  have hf1 := hfz 1
  have hf2 := hfz 2
  go_enter Tryz.func108, Tryz.ntmps108
  go_wp2_with (fail)
  go_quiet (fail)
  go_wp2_with (fail)
  by_cases hlt : i < xs.length
  · obtain ⟨j, rfl⟩ := Int.eq_ofNat_of_zero_le hi0
    obtain ⟨g, off, x, ec, rfl, hgb, hxk, rfl, hcell⟩ := elem_at hx (k := j) (by omega)
    have hcx := cell_up hgr (hcell 0 _ rfl)
    simp only [show byteT.size = 1 from rfl, Nat.mul_one, Nat.add_zero] at hcx
    have hgk : g ≠ k := by omega
    have hxb := x.toNat_lt
    clear hcell hxk
    go_quiet (fail)
    go_wp2_with (fail)
    go_quiet (fail)
    go_wp2_with (fail)
    go_ret
    refine ⟨_, congrArg (fun z => Ending.returned (.int .i64 z)) (and255 _).choose_spec.1, (and255 _).choose_spec.2, ?_, ?_⟩
    · exact (((H0.seth (wrap64_i64 _)).seti (by omega) ⟨by omega, by omega⟩).drewN _).out.1
    · exact (((H0.seth (wrap64_i64 _)).seti (by omega) ⟨by omega, by omega⟩).drewN _).out.2
  · go_quiet (fail)
    go_wp2_with (fail)
    go_ret
    refine ⟨_, congrArg (fun z => Ending.returned (.int .i64 z)) (and255 _).choose_spec.1, (and255 _).choose_spec.2, ?_, ?_⟩
    · exact ((H0.seth (wrap64_i64 _)).drewN _).out.1
    · exact ((H0.seth (wrap64_i64 _)).drewN _).out.2
theorem new_blk {w : World} {os : Array Obj} {d : Nat} (b : Obj) (n : Nat) (h : n = w.heap.size + os.size := by rfl) : ((gro w os d).alloc b).heap[n]? = some b := by
  subst h
  have := heap_alloc_new (gro w os d) b
  rwa [gro_size] at this
set_option maxRecDepth 100000 in
theorem new_s {w : World} {A : Option Addr} {n c : Nat} {xs : List UInt8} (hx : (byteT.sl 5).R w w.heap.size [.slice A n c] xs) (hl : xs.length ≤ 1099511627776) : Calls Tryz.prog 49 #[.slice A n c] w fun e W' => ∃ k, e = .returned (.pointer (some ⟨k, 0, none⟩)) ∧ Cur w W' k := by
  have hx' := hx
  obtain ⟨_, _, hv, hxl, hcm⟩ := sl_at hx
  injection hv with hA hn hc
  subst hA hn hc
  go_enter Tryz.func49, Tryz.ntmps49
  go_wp2_with (fail)
  go_loopw [3, 4] (fun a b wr => ∃ (h : Int) (j : Nat), a = .int .i64 h ∧ b = .int .i64 j ∧ j ≤ xs.length ∧ I64 h ∧ Hid (Gro w wr)) (fun _ b _ => xs.length - (intOf b).toNat)
  case atStart => exact ⟨33147 + xs.length, 0, rfl, rfl, Nat.zero_le _, ⟨by omega, by omega⟩, Lib.hid (Gro.refl _)⟩
  case round =>
    obtain ⟨h, j, rfl, rfl, hj, hh, hG⟩ := hrel
    obtain ⟨os, d, rfl⟩ := hG.out
    clear hG
    by_cases hlt : j < xs.length ∧ j < 4000
    · obtain ⟨hlt1, hlt2⟩ := hlt
      obtain ⟨g, off, x, ec, rfl, hgb, hxk, rfl, hcell⟩ := elem_at hx (k := j) hlt1
      have hcx := hcell 0 _ rfl
      simp only [show byteT.size = 1 from rfl, Nat.mul_one, Nat.add_zero] at hcx
      have hxb := x.toNat_lt
      clear hcell hxk hx
      go_wp2_with (fail)
      go_roundw
      case rel => exact ⟨_, j + 1, rfl, by go_num, by omega, and_i64 _ _, Lib.hid (by repeat (first | with_reducible exact Gro.refl _ | with_reducible exact Gro.refl_drew _ _ _ | with_reducible exact Gro.refl_drewN _ _ _ _ | assumption | with_reducible apply Gro.more | with_reducible apply Gro.alloc | with_reducible apply Gro.drew | with_reducible apply Gro.drewN))⟩
      case measure => simp [intOf]; omega
    · by_cases hlt1 : j < xs.length
      · have hlt2 : ¬ j < 4000 := fun h => hlt ⟨hlt1, h⟩
        go_wp2_with (fail)
        go_ret
        refine ⟨_, rfl, ?_⟩
        exact ⟨by omega, (by repeat (first | with_reducible exact Gro.refl _ | with_reducible exact Gro.refl_drew _ _ _ | with_reducible exact Gro.refl_drewN _ _ _ _ | assumption | with_reducible apply Gro.more | with_reducible apply Gro.alloc | with_reducible apply Gro.drew | with_reducible apply Gro.drewN)), _, _, _, 0, h, xs, new_blk _ _, Int.le_refl _, ⟨by omega, by omega⟩, hh, hx⟩
      · go_wp2_with (fail)
        go_ret
        refine ⟨_, rfl, ?_⟩
        exact ⟨by omega, (by repeat (first | with_reducible exact Gro.refl _ | with_reducible exact Gro.refl_drew _ _ _ | with_reducible exact Gro.refl_drewN _ _ _ _ | assumption | with_reducible apply Gro.more | with_reducible apply Gro.alloc | with_reducible apply Gro.drew | with_reducible apply Gro.drewN)), _, _, _, 0, h, xs, new_blk _ _, Int.le_refl _, ⟨by omega, by omega⟩, hh, hx⟩
set_option maxRecDepth 100000 in
theorem below_n {w W : World} {k : Nat} (hC : Cur w W k) (n : Nat) (hn : 0 < n) (hn2 : n ≤ 1099511627776) : Calls Tryz.prog 79 #[.pointer (some ⟨k, 0, none⟩), .int .i64 (n : Int)] W fun e W' => ∃ x : Nat, e = .returned (.int .i64 (x : Int)) ∧ x < n ∧ Cur w W' k ∧ OnlyS [k] W W' := by
  by_cases h : n ≤ 256
  · go_enter Tryz.func79, Tryz.ntmps79
    go_wp2_with (go_at_call 108; (with_reducible refine (byte_s hC).mono ?_); rintro e W1 ⟨x, rfl, hx, hC1, hS1⟩)
    go_ret
    refine ⟨x % n, ?_, Nat.mod_lt _ hn, hC1, hS1⟩
    exact ret_int (show (x : Int) % (n : Int) = ((x % n : Nat) : Int) from (Int.natCast_emod x n).symm)
  · go_enter Tryz.func79, Tryz.ntmps79
    go_wp2_with (fail)
    refine (byte_s hC).mono ?_
    rintro e W1 ⟨x1, rfl, hx1, hC1, hS1⟩
    go_wp2_with (fail)
    refine (byte_s hC1).mono ?_
    rintro e W2 ⟨x2, rfl, hx2, hC2, hS2⟩
    go_wp2_with (fail)
    refine (byte_s hC2).mono ?_
    rintro e W3 ⟨x3, rfl, hx3, hC3, hS3⟩
    go_wp2_with (fail)
    refine (byte_s hC3).mono ?_
    rintro e W4 ⟨x4, rfl, hx4, hC4, hS4⟩
    go_wp2_with (fail)
    go_ret
    refine ⟨(x1 * 16777216 + x2 * 65536 + x3 * 256 + x4) % n, ?_, Nat.mod_lt _ hn, hC4, ((hS1.trans hS2).trans hS3).trans hS4⟩
    exact ret_int (show ((x1 : Int) * 16777216 + x2 * 65536 + x3 * 256 + x4) % (n : Int) = (((x1 * 16777216 + x2 * 65536 + x3 * 256 + x4) % n : Nat) : Int) from by rw [Int.natCast_emod]; rfl)
theorem below_s {w W : World} {k : Nat} (hC : Cur w W k) (n : Int) (hn : 0 < n) (hn2 : n ≤ 1099511627776) : Calls Tryz.prog 79 #[.pointer (some ⟨k, 0, none⟩), .int .i64 n] W fun e W' => ∃ x : Nat, e = .returned (.int .i64 (x : Int)) ∧ (x : Int) < n ∧ Cur w W' k ∧ OnlyS [k] W W' := by
  obtain ⟨n, rfl⟩ := Int.eq_ofNat_of_zero_le (show 0 ≤ n by omega)
  refine (below_n hC n (by omega) (by omega)).mono ?_
  rintro e W' ⟨x, h1, h2, h3⟩
  exact ⟨x, h1, by omega, h3⟩
set_option maxRecDepth 100000 in
theorem pick_s {w W : World} {k : Nat} (hC : Cur w W k) {A : Option Addr} {n c : Nat} {xs : List Int} (hx : (intT.sl 3).R W W.heap.size [.slice A n c] xs) (hk : ∀ ad, A = some ad → ad.block ≠ k) (h0 : 0 < n) (h1 : n ≤ 1000000) : Calls Tryz.prog 81 #[.pointer (some ⟨k, 0, none⟩), .slice A n c] W fun e W' => ∃ x : Int, e = .returned (.int .i64 x) ∧ x ∈ xs ∧ Cur w W' k ∧ OnlyS [k] W W' := by
  obtain ⟨_, _, hv, hxl, hcm⟩ := sl_at hx
  injection hv with hA hn hc
  subst hA hn hc
  go_enter Tryz.func81, Tryz.ntmps81
  go_wp2_with (fail)
  refine (below_s hC xs.length (by omega) (by omega)).mono ?_
  rintro e W1 ⟨i, rfl, hi, hC1, hS1⟩
  obtain ⟨g, off, x, ec, rfl, hgb, hxk, hR, hcell⟩ := elem_at hx (k := i) (by omega)
  obtain ⟨rfl, _⟩ := hR
  have hcx := (hS1.cell hgb (by simpa using hk _ rfl) _).trans (hcell 0 _ rfl)
  simp only [show intT.size = 1 from rfl, Nat.mul_one, Nat.add_zero] at hcx
  go_wp2_with (fail)
  go_ret
  exact ⟨x, rfl, List.mem_of_getElem? hxk, hC1, hS1⟩
end Go.Proofs.YtdlkoffandhclaaGreatDoor
namespace Go.Proofs.YtdlkoffandhclaaGreatDoor
open Go.RowKit
set_option maxRecDepth 100000 in
theorem big_l (A : Option Addr) (n c : Nat) (w : World) : Calls Tryz.prog 15 #[.slice A n c] w fun e w' => e = .returned (.bool (decide (1048576 < (n : Int)))) ∧ Gro w w' := by
  go_enter Tryz.func15, Tryz.ntmps15
  go_wp2_with (fail)
  go_ret
  exact ⟨rfl, (by repeat (first | with_reducible exact Gro.refl _ | with_reducible exact Gro.refl_drew _ _ _ | with_reducible exact Gro.refl_drewN _ _ _ _ | assumption | with_reducible apply Gro.more | with_reducible apply Gro.alloc | with_reducible apply Gro.drew | with_reducible apply Gro.drewN))⟩
end Go.Proofs.YtdlkoffandhclaaGreatDoor
namespace Go.Proofs.YtdlkoffandhclaaGreatDoor
open Go.RowKit
def stk (fs : List DFrame) : Prop := fs ≠ [] ∧ fs.all frameOk = true
theorem stk_snoc {fs : List DFrame} {nm : ByteArray} {n : Int} (h : stk fs) (hn : nameOk nm = true) (hl : 0 ≤ n ∧ n ≤ 59) : stk (fs ++ [⟨nm, n⟩]) := by
  refine ⟨by simp, ?_⟩
  rw [List.all_append, h.2]
  simp [frameOk, hn, btw_mk hl.1 hl.2]
theorem lit3 {x : Nat} (h : (x : Int) < 3) : ∃ nm : ByteArray, (#[Value.string { data := #[102] }, Value.string { data := #[103, 103] }, Value.string { data := #[104] }] : Array Value)[x]? = some (.string nm) ∧ nameOk nm = true ∧ nm.size ≤ 9 := by
  have : x = 0 ∨ x = 1 ∨ x = 2 := by omega
  rcases this with rfl | rfl | rfl
  · exact ⟨_, rfl, by decide, by decide⟩
  · exact ⟨_, rfl, by decide, by decide⟩
  · exact ⟨_, rfl, by decide, by decide⟩
set_option maxRecDepth 100000 in
set_option maxHeartbeats 2000000 in
theorem stack_s {w W : World} {k : Nat} (hC : Cur w W k) : Calls Tryz.prog 80 #[.pointer (some ⟨k, 0, none⟩)] W fun e W' => ∃ A c fs, e = .returned (.slice A fs.length c) ∧ stk fs ∧ fs.length ≤ 4 ∧ Cur w W' k ∧ OnlyS [k] W W' ∧ FrN (tFrame.sl 90) W.heap.size W'.heap.size W' [.slice A fs.length c] fs := by
  go_enter Tryz.func80, Tryz.ntmps80
  go_wp2_with (fail)
  refine (below_s hC 3 (by decide) (by decide)).mono ?_
  rintro e W1 ⟨x1, rfl, hx1, hC1, hS1⟩
  go_wp2_with (fail)
  refine (below_s (hC1.more (by repeat (first | with_reducible exact Gro.refl _ | with_reducible exact Gro.refl_drew _ _ _ | with_reducible exact Gro.refl_drewN _ _ _ _ | assumption | with_reducible apply Gro.more | with_reducible apply Gro.alloc | with_reducible apply Gro.drew | with_reducible apply Gro.drewN))) 4 (by decide) (by decide)).mono ?_
  rintro e W2 ⟨x2, rfl, hx2, hC2, hS2⟩
  go_wp2_with (fail)
  go_loopw [3, 4] (fun a b wr => ∃ (j : Nat) (A : Option Addr) (c : Nat) (fs : List DFrame), a = .slice A fs.length c ∧ b = .int .i64 j ∧ j + fs.length ≤ 4 ∧ Hid (stk fs) ∧ Cur w wr k ∧ OnlyS [k] W wr ∧ FrN (tFrame.sl 90) W.heap.size wr.heap.size wr [.slice A fs.length c] fs) (fun _ b _ => (intOf b).toNat)
  case atStart =>
    have h0 : FrN (tFrame.sl 90) W.heap.size (W1.heap.size + 1) (W1.alloc (.cells #[.string { data := #[109, 97, 105, 110] }, .int .i64 (1 + x1)] 90)) [.slice (some ⟨W1.heap.size, 0, none⟩) 1 1] [⟨{ data := #[109, 97, 105, 110] }, 1 + x1⟩] := by
      have h1 := fresh_one (e := 90) flatFrame (W0 := W1) (W := W1) (W1 := w) (B := 0) (ec := [.string { data := #[109, 97, 105, 110] }, .int .i64 (1 + x1)]) (x := ⟨{ data := #[109, 97, 105, 110] }, 1 + x1⟩) (tFrame_mkR (x := ⟨{ data := #[109, 97, 105, 110] }, 1 + x1⟩) (by simp only; decide) ⟨by simp only; omega, by simp only; omega⟩) (Gro.refl _) rfl
      exact h1.frN.wide hS1.size (by simp)
    exact ⟨x2, _, 1, [⟨{ data := #[109, 97, 105, 110] }, 1 + x1⟩], rfl, rfl, by simp only [List.length_cons, List.length_nil]; omega, Lib.hid ⟨by simp, by simp [frameOk, show nameOk { data := #[109, 97, 105, 110] } = true by decide]; exact btw_mk (by omega) (by omega)⟩, hC2, (hS1.trans (Gro.only (by repeat (first | with_reducible exact Gro.refl _ | with_reducible exact Gro.refl_drew _ _ _ | with_reducible exact Gro.refl_drewN _ _ _ _ | assumption | with_reducible apply Gro.more | with_reducible apply Gro.alloc | with_reducible apply Gro.drew | with_reducible apply Gro.drewN)) _)).trans hS2, (h0.only hS2 hC.lt).wide (Nat.le_refl _) (by have := hS2.size; simpa using this)⟩
  case round =>
    obtain ⟨j, A, c, fs, rfl, rfl, hj, hst, hC3, hS3, hF3⟩ := hrel
    by_cases hlt : 0 < j
    · go_wp2_with (fail)
      have hkl := hC3.lt
      have hkW := hC.lt
      have hWr := hS3.size
      go_region_law (first
        | (go_simp; go_at_call 79; (with_reducible refine (below_s (hC4.more (by (repeat (first | with_reducible exact Gro.refl _ | with_reducible exact Gro.refl_drew _ _ _ | with_reducible exact Gro.refl_drewN _ _ _ _ | assumption | with_reducible apply Gro.more | with_reducible apply Gro.alloc | with_reducible apply Gro.drew | with_reducible apply Gro.drewN)); done)) 3 (by decide) (by decide)).mono ?_); rintro e W5 ⟨x5, rfl, hx5, hC5, hS5⟩; have hSS : OnlyS [k] wr W5 := (Gro.only (by repeat (first | with_reducible exact Gro.refl _ | with_reducible exact Gro.refl_drew _ _ _ | with_reducible exact Gro.refl_drewN _ _ _ _ | assumption | with_reducible apply Gro.more | with_reducible apply Gro.alloc | with_reducible apply Gro.drew | with_reducible apply Gro.drewN)) _).trans (hS4.trans ((Gro.only (by repeat (first | with_reducible exact Gro.refl _ | with_reducible exact Gro.refl_drew _ _ _ | with_reducible exact Gro.refl_drewN _ _ _ _ | assumption | with_reducible apply Gro.more | with_reducible apply Gro.alloc | with_reducible apply Gro.drew | with_reducible apply Gro.drewN)) _).trans hS5)); have hF5 := hF3.only hSS hkW; have hz5 := hSS.size; have hwr : IntKind.i64.wrap (4 + (x5 : Int)) = 4 + x5 := IntWalk.i64_in _ ⟨by omega, by omega⟩; (try have hcl := (hS5.cell (g := wr.heap.size) (by have := hS4.size; simp at this; simp; omega) (by simp; omega) x4).trans hcl); have hl4 := hC4.lt; (try have hcl2 := (hS5.cell (g := W4.heap.size) (by simp) (by simp; omega) x4).trans (show _ = some (Value.string nm) from by simpa [go_sem] using hnm)))
        | (go_simp; go_at_call 79; (with_reducible refine (below_s (hC3.more (by (repeat (first | with_reducible exact Gro.refl _ | with_reducible exact Gro.refl_drew _ _ _ | with_reducible exact Gro.refl_drewN _ _ _ _ | assumption | with_reducible apply Gro.more | with_reducible apply Gro.alloc | with_reducible apply Gro.drew | with_reducible apply Gro.drewN)); done)) 3 (by decide) (by decide)).mono ?_); rintro e W4 ⟨x4, rfl, hx4, hC4, hS4⟩; obtain ⟨nm, hnm, hok, hsz⟩ := lit3 hx4; try have hcl := (hS4.cell (g := wr.heap.size) (by simp) (by simp; omega) x4).trans (show _ = some (Value.string nm) from by simpa [go_sem] using hnm))
        | (refine step_append_up (lo := W.heap.size) (L := fs.length + 1) rfl (.tmp 16) (.tmp 26) elFrame flatFrame (hF5.gro (by (repeat (first | with_reducible exact Gro.refl _ | with_reducible exact Gro.refl_drew _ _ _ | with_reducible exact Gro.refl_drewN _ _ _ _ | assumption | with_reducible apply Gro.more | with_reducible apply Gro.alloc | with_reducible apply Gro.drew | with_reducible apply Gro.drewN)); done)) (by simp; omega) (by simp; omega) (W1 := w) (B := 0) (ec := [.string nm, .int .i64 (4 + x5)]) (y := ⟨nm, 4 + x5⟩) (tFrame_mkR (x := ⟨nm, 4 + x5⟩) (by simp only; omega) ⟨by simp only; omega, by simp only; omega⟩) rfl rfl rfl (by intro j u hu; simpa [go_sem, hwr] using hu) rfl (by omega) (by omega) ?_; intro A6 c6 W6 hb6 hF6))
      all_goals go_wp2_with (fail)
      all_goals go_roundw
      all_goals try (case measure => simp [intOf]; omega)
      all_goals refine ⟨j - 1, A6, c6, fs ++ [⟨nm, 4 + x5⟩], by simp, by go_num, by simp only [List.length_append, List.length_cons, List.length_nil]; omega, Lib.hid (stk_snoc hst.out hok ⟨by omega, by omega⟩), (hC5.more (by repeat (first | with_reducible exact Gro.refl _ | with_reducible exact Gro.refl_drew _ _ _ | with_reducible exact Gro.refl_drewN _ _ _ _ | assumption | with_reducible apply Gro.more | with_reducible apply Gro.alloc | with_reducible apply Gro.drew | with_reducible apply Gro.drewN))).below hb6 hkW, (hS3.trans (hSS.trans (Gro.only (by repeat (first | with_reducible exact Gro.refl _ | with_reducible exact Gro.refl_drew _ _ _ | with_reducible exact Gro.refl_drewN _ _ _ _ | assumption | with_reducible apply Gro.more | with_reducible apply Gro.alloc | with_reducible apply Gro.drew | with_reducible apply Gro.drewN)) _))).below hb6 (Nat.le_refl _), by rw [List.length_append]; exact hF6⟩
    · obtain rfl : j = 0 := by omega
      go_wp2_with (fail)
      go_ret
      exact ⟨A, c, fs, rfl, hst.out, by omega, hC3, hS3, hF3⟩
def stks (l : List (List DFrame)) : Prop := ∀ s ∈ l, stk s ∧ s.length ≤ 4
end Go.Proofs.YtdlkoffandhclaaGreatDoor
namespace Go.Proofs.YtdlkoffandhclaaGreatDoor
open Go.RowKit
theorem box2 {W : World} {g : Nat} {a b : Value} {e : TypeId} (h : W.heap[g]? = some (.cells #[a, b] e (0, 0))) :
    W.cell? ⟨g, 0, none⟩ = some a ∧ W.cell? ⟨g, 1, none⟩ = some b ∧ W.frozen? ⟨g, 0, none⟩ = false ∧ W.frozen? ⟨g, 1, none⟩ = false ∧ g < W.heap.size := by
  refine ⟨?_, ?_, by simp [World.frozen?, h], by simp [World.frozen?, h], (Array.getElem?_eq_some_iff.1 h).1⟩
  all_goals
    rw [cell_of_row W g _ _ _ (0, 0) h]
    rfl
theorem set2 {W : World} {g : Nat} {p q : Value} {e : TypeId} (h : W.heap[g]? = some (.cells #[p, q] e (0, 0))) (a b : Value) :
    ((W.setCell ⟨g, 0, none⟩ a).setCell ⟨g, 1, none⟩ b).heap[g]? = some (.cells #[a, b] e (0, 0)) ∧ OnlyS [g] W ((W.setCell ⟨g, 0, none⟩ a).setCell ⟨g, 1, none⟩ b) :=
  ⟨heap_setCell_at (heap_setCell_at h 0 a) 1 b, ((OnlyS.refl _ _).setCell (p := ⟨g, 0, none⟩) (by simp) a).setCell (p := ⟨g, 1, none⟩) (by simp) b⟩
theorem only_below {a b : World} {g lo : Nat} (h : OnlyS [g] a b) (hl : lo ≤ g) (hg : g < a.heap.size) : Below lo a b :=
  ⟨h.os, h.tape, h.output, h.size, fun i hi => h.block i (by omega) (by simp; omega)⟩
theorem FrN.onlyL {α : Type} {T : Ty α} {lo hi : Nat} {L : List Nat} {a b : World} {cs : List Value} {x : α} (h : FrN T lo hi a cs x) (hs : OnlyS L a b) (hk : ∀ k ∈ L, k < lo) : FrN T lo hi b cs x := by
  obtain ⟨S, h1, h2, h3⟩ := h
  exact ⟨S, T.keepO h1 (fun j hj => hs.block j (T.ltO h1 j hj) (fun hm => by have := h3 j hj; have := hk j hm; omega)), h2, h3⟩
theorem grow_blk {S Y : World} {k : Nat} {o : Obj} (h : S.heap[k]? = some o) (hG : Gro S Y) : Y.heap[k]? = some o :=
  (hG.block (Array.getElem?_eq_some_iff.1 h).1).trans h
/-- a box of four numbers -/
theorem box4 {W : World} {g : Nat} {a b c d : Value} {e : TypeId} (h : W.heap[g]? = some (.cells #[a, b, c, d] e (0, 0))) :
    W.cell? ⟨g, 0, none⟩ = some a ∧ W.cell? ⟨g, 1, none⟩ = some b ∧ W.cell? ⟨g, 2, none⟩ = some c ∧ W.cell? ⟨g, 3, none⟩ = some d ∧ (∀ j, W.frozen? ⟨g, j, none⟩ = false) := by
  refine ⟨?_, ?_, ?_, ?_, fun j => by simp [World.frozen?, h]⟩
  all_goals
    rw [cell_of_row W g _ _ _ (0, 0) h]
    rfl
theorem set4 {W : World} {g : Nat} {p q r s : Value} {e : TypeId} (h : W.heap[g]? = some (.cells #[p, q, r, s] e (0, 0))) (a b c d : Value) :
    ((((W.setCell ⟨g, 0, none⟩ a).setCell ⟨g, 1, none⟩ b).setCell ⟨g, 2, none⟩ c).setCell ⟨g, 3, none⟩ d).heap[g]? = some (.cells #[a, b, c, d] e (0, 0)) ∧ OnlyS [g] W ((((W.setCell ⟨g, 0, none⟩ a).setCell ⟨g, 1, none⟩ b).setCell ⟨g, 2, none⟩ c).setCell ⟨g, 3, none⟩ d) :=
  ⟨heap_setCell_at (heap_setCell_at (heap_setCell_at (heap_setCell_at h 0 a) 1 b) 2 c) 3 d, ((((OnlyS.refl _ _).setCell (p := ⟨g, 0, none⟩) (by simp) a).setCell (p := ⟨g, 1, none⟩) (by simp) b).setCell (p := ⟨g, 2, none⟩) (by simp) c).setCell (p := ⟨g, 3, none⟩) (by simp) d⟩
end Go.Proofs.YtdlkoffandhclaaGreatDoor
namespace Go.Proofs.YtdlkoffandhclaaGreatDoor
open Go.RowKit
theorem countsOk_iff : ∀ {L : Int} {cs : List Int}, 0 ≤ L → (countsOk L cs = true ↔ (∀ c ∈ cs, 0 ≤ c) ∧ cs.sum ≤ L)
  | L, [], hL => by simp [countsOk, hL]
  | L, c :: cs, hL => by
    simp only [countsOk, Bool.and_eq_true, btw_iff, List.sum_cons, List.mem_cons, forall_eq_or_imp]
    constructor
    · rintro ⟨⟨h1, h2⟩, h3⟩
      have := (countsOk_iff (by omega)).1 h3
      exact ⟨⟨h1, this.1⟩, by omega⟩
    · rintro ⟨⟨h1, h2⟩, h3⟩
      have hs : 0 ≤ cs.sum := by
        clear h3
        induction cs with
        | nil => simp
        | cons a cs ih =>
          have := ih fun c hc => h2 c (List.mem_cons_of_mem _ hc)
          have := h2 a List.mem_cons_self
          simp only [List.sum_cons]
          omega
      exact ⟨⟨h1, by omega⟩, (countsOk_iff (by omega)).2 ⟨h2, by omega⟩⟩
theorem addStack_yes {p : DProfile} {l : List DFrame} {n : Int} (hp : profileOk p = true) (hn : 0 ≤ n) (hl : l ≠ []) (ha : l.all frameOk = true) (ht : totalOf p + n ≤ 1000000000000) : ∃ q, addStack p l n = (q, true) := by
  have hpp := pOk_parts hp
  have htp : 0 ≤ totalOf p ∧ totalOf p = p.Counts.sum := by
    have := countsOk_take hpp.2.2 (by omega) p.Counts.length
    rw [List.take_length] at this
    unfold totalOf
    rw [if_pos hp]
    exact ⟨this.1, rfl⟩
  have hi : internStack p.Stacks l = (⟨(internL p.Stacks.Nodes (-1) l).1⟩, (internL p.Stacks.Nodes (-1) l).2) := by
    unfold internStack
    rw [if_pos]
    simp only [Bool.and_eq_true, Bool.not_eq_true', List.isEmpty_eq_false_iff]
    exact ⟨hpp.1, hl, ha⟩
  obtain ⟨r1, ⟨ms, r2⟩, r3, r4, r5, r6⟩ := intern_path l p.Stacks.Nodes (-1) hpp.1 (by omega) (by omega) ha
  rw [pathI_neg p.Stacks.Nodes (show (-1 : Int) < 0 by omega), List.nil_append] at r5
  have h0 : 0 ≤ (internL p.Stacks.Nodes (-1) l).2 := by
    apply Decidable.byContradiction
    intro hc
    rw [pathI_neg _ (by omega)] at r5
    exact hl r5.symm
  have hle : p.Counts.length ≤ (internL p.Stacks.Nodes (-1) l).1.length := by rw [r2, List.length_append]; omega
  have hnn : ∀ c ∈ p.Counts, 0 ≤ c := ((countsOk_iff (by omega)).1 hpp.2.2).1
  have hg := padTo_get (cs := p.Counts) hle (show (internL p.Stacks.Nodes (-1) l).2.toNat < _ by omega)
  have hgn : 0 ≤ (p.Counts[(internL p.Stacks.Nodes (-1) l).2.toNat]?).getD 0 := by
    cases hc : p.Counts[(internL p.Stacks.Nodes (-1) l).2.toNat]? with
    | none => exact Int.le_refl _
    | some c => exact hnn c (List.mem_of_getElem? hc)
  refine ⟨addTo p (internStack p.Stacks l).1 (internStack p.Stacks l).2.toNat n, ?_⟩
  unfold addStack
  rw [if_pos (by rw [hp, btw_mk hn (by omega)]; rfl), hi, if_pos h0, if_pos]
  unfold addTo profileOk
  simp only [Bool.and_eq_true, decide_eq_true_eq, List.length_set]
  rw [padTo_len' hle]
  refine ⟨r1, rfl, (countsOk_iff (by omega)).2 ⟨?_, ?_⟩⟩
  · rw [hg]
    intro c hc
    rcases List.mem_or_eq_of_mem_set hc with h1 | h1
    · unfold padTo at h1
      rcases List.mem_append.1 h1 with h1 | h1
      · exact hnn c h1
      · rw [(List.mem_replicate.1 h1).2]
        exact Int.le_refl _
    · rw [h1]
      simp only [Option.getD_some]
      omega
  · rw [hg, sum_set _ _ _ _ hg]
    unfold padTo
    rw [List.sum_append, sum_zeros]
    simp only [Option.getD_some]
    omega
theorem total_bd {p : DProfile} (h : profileOk p = true) : 0 ≤ totalOf p ∧ totalOf p ≤ 1000000000000 := by
  have hpp := pOk_parts h
  have := countsOk_take hpp.2.2 (by omega) p.Counts.length
  rw [List.take_length] at this
  unfold totalOf
  rw [if_pos h]
  exact this
theorem countOf_nonneg {p : DProfile} (m : List DFrame) : 0 ≤ countOf p m := by
  unfold countOf
  split
  · rename_i hc
    have hnn : ∀ c ∈ p.Counts, 0 ≤ c := ((countsOk_iff (by omega)).1 (pOk_parts hc.2).2.2).1
    cases hx : p.Counts[(findStack p.Stacks m).toNat]? with
    | none => exact Int.le_refl _
    | some c => exact hnn c (List.mem_of_getElem? hx)
  · exact Int.le_refl _
/-- counts of a text among entries -/
def cntT (l : List DEntry) (s : ByteArray) : Int := (l.map fun e => if e.Stack = s then e.Count else 0).sum
def sumE (l : List DEntry) : Int := (l.map DEntry.Count).sum
/-- an entry of a stack that can be written -/
def entOk (e : DEntry) : Prop := ∃ s : List DFrame, s ≠ [] ∧ s.all frameOk = true ∧ e.Stack = fmtF s ∧ 0 ≤ e.Count
theorem stack_ok {p : DProfile} {m : List DFrame} (h : countOf p m ≠ 0) : m ≠ [] ∧ m.all frameOk = true := by
  obtain ⟨hp, k, hk, rfl⟩ := countOf_pos h
  exact ⟨path_ne (pOk_parts hp).1 hk, path_ok (pOk_parts hp).1 hk⟩
theorem profL_yes : ∀ {l : List DEntry} {p : DProfile}, profileOk p = true → (∀ e ∈ l, entOk e) → totalOf p + sumE l ≤ 1000000000000 →
    ∃ q, profL l p = some q ∧ profileOk q = true ∧ totalOf q = totalOf p + sumE l ∧ ∀ m, m ≠ [] → m.all frameOk = true → countOf q m = countOf p m + cntT l (fmtF m)
  | [], p, hp, _, _ => ⟨p, rfl, hp, by simp [sumE], fun m _ _ => by simp [cntT]⟩
  | e :: l, p, hp, he, ht => by
    obtain ⟨s, h1, h2, h3, h4⟩ := he e List.mem_cons_self
    have hsl : 0 ≤ sumE l := by
      have : ∀ e ∈ l, 0 ≤ e.Count := fun e' h' => by obtain ⟨_, _, _, _, h5⟩ := he e' (List.mem_cons_of_mem _ h'); exact h5
      clear ht he
      induction l with
      | nil => simp [sumE]
      | cons a l ih =>
        have := ih fun c hc => this c (List.mem_cons_of_mem _ hc)
        have := this
        have h6 := ‹∀ e ∈ a :: l, 0 ≤ e.Count› a List.mem_cons_self
        simp only [sumE, List.map_cons, List.sum_cons] at this ⊢
        omega
    have hse : sumE (e :: l) = e.Count + sumE l := by simp [sumE]
    obtain ⟨r, hr⟩ := addStack_yes hp h4 h1 h2 (by omega)
    have hpr : (parseR e.Stack) = (s, true) := by
      unfold parseR
      rw [h3, parse_back h2 h1]
    have hst : stepP p e = some r := by
      unfold stepP
      rw [hpr]
      simp only
      rw [hr]
      rfl
    have hrr := (addStack_spec hr).2.1
    have htr := addStack_total hr
    obtain ⟨q, hq1, hq2, hq3, hq4⟩ := profL_yes hrr (fun e' h' => he e' (List.mem_cons_of_mem _ h')) (by omega)
    refine ⟨q, by rw [profL_some hst]; exact hq1, hq2, by omega, fun m hm hm2 => ?_⟩
    rw [hq4 m hm hm2, addStack_count hr m]
    have hmm : (m = s) ↔ e.Stack = fmtF m := by
      rw [h3]
      constructor
      · rintro rfl; rfl
      · intro hh; exact (fmtF_inj h2 hm2 h1 hm hh).symm
    simp only [cntT, List.map_cons, List.sum_cons, hmm]
    omega
theorem ents_entOk {p : DProfile} {e : DEntry} (he : e ∈ entriesOf p) : entOk e := by
  by_cases hp : profileOk p = true
  · obtain ⟨k, hk, h1, h2, h3⟩ := (ents_iff hp e).1 he
    exact ⟨path p.Stacks.Nodes k, path_ne (pOk_parts hp).1 hk, path_ok (pOk_parts hp).1 hk, h1, by rw [h2]; exact countOf_nonneg _⟩
  · unfold entriesOf at he
    rw [if_neg hp] at he
    cases he
theorem sum_perm {l1 l2 : List Int} (h : l1.Perm l2) : l1.sum = l2.sum := by
  induction h with
  | nil => rfl
  | cons x _ ih => simp only [List.sum_cons, ih]
  | swap x y l => simp only [List.sum_cons]; omega
  | trans _ _ h1 h2 => rw [h1, h2]
theorem entTake_sum (p : DProfile) : ∀ n, n ≤ p.Counts.length → ((entTake p n).map DEntry.Count).sum = (p.Counts.take n).sum
  | 0, _ => by simp [entTake]
  | n + 1, h => by
    obtain ⟨c, hc⟩ : ∃ c, p.Counts[n]? = some c := ⟨_, List.getElem?_eq_getElem (by omega)⟩
    have ih := entTake_sum p n (by omega)
    rw [List.take_add_one, hc, List.sum_append]
    by_cases h0 : c = 0
    · subst h0
      rw [entTake_zero hc, ih]
      simp
    · rw [entTake_snoc hc h0, List.map_append, List.sum_append, ih]
      simp
theorem sumE_ents {p : DProfile} (h : profileOk p = true) : sumE (entriesOf p) = totalOf p := by
  unfold sumE entriesOf totalOf
  rw [if_pos h, if_pos h, sum_perm ((foldl_insE_perm (entTake p p.Counts.length) []).map DEntry.Count), List.nil_append, entTake_sum p _ (Nat.le_refl _), List.take_length]
theorem cntT_one {l : List DEntry} {e : DEntry} (hn : (l.map fun e => bl e.Stack).Nodup) (he : e ∈ l) : cntT l e.Stack = e.Count := by
  induction l with
  | nil => cases he
  | cons a l ih =>
    rw [List.map_cons, List.nodup_cons] at hn
    simp only [cntT, List.map_cons, List.sum_cons]
    have hz : ∀ s : ByteArray, (∀ x ∈ l, x.Stack ≠ s) → (l.map fun e => if e.Stack = s then e.Count else 0).sum = 0 := by
      intro s hs
      clear ih hn he
      induction l with
      | nil => rfl
      | cons b l ih2 =>
        simp only [List.map_cons, List.sum_cons]
        rw [if_neg (hs b List.mem_cons_self), ih2 fun x hx => hs x (List.mem_cons_of_mem _ hx)]
        rfl
    rcases List.mem_cons.1 he with rfl | he
    · rw [if_pos rfl, hz _ fun x hx e' => hn.1 (by rw [← e']; exact List.mem_map_of_mem (f := fun e => bl e.Stack) hx)]
      omega
    · rw [if_neg fun e' => hn.1 (by rw [e']; exact List.mem_map_of_mem (f := fun e => bl e.Stack) he)]
      have := ih hn.2 he
      unfold cntT at this
      omega
theorem cntT_none {l : List DEntry} {s : ByteArray} (h : ∀ e ∈ l, e.Stack ≠ s) : cntT l s = 0 := by
  unfold cntT
  induction l with
  | nil => rfl
  | cons b l ih =>
    simp only [List.map_cons, List.sum_cons]
    rw [if_neg (h b List.mem_cons_self), ih fun x hx => h x (List.mem_cons_of_mem _ hx)]
    rfl
theorem cntT_ents {p : DProfile} (h : profileOk p = true) {m : List DFrame} (hm : m ≠ []) (ha : m.all frameOk = true) : cntT (entriesOf p) (fmtF m) = countOf p m := by
  by_cases hc : countOf p m = 0
  · rw [hc]
    refine cntT_none fun e he hs => ?_
    obtain ⟨k, hk, h1, h2, h3⟩ := (ents_iff h e).1 he
    have := fmtF_inj (path_ok (pOk_parts h).1 hk) ha (path_ne (pOk_parts h).1 hk) hm (by rw [← h1, hs])
    rw [this, hc] at h2
    exact h3 h2
  · obtain ⟨_, k, hk, hpk⟩ := countOf_pos hc
    have he : (⟨fmtF m, countOf p m⟩ : DEntry) ∈ entriesOf p := (ents_iff h _).2 ⟨k, hk, by rw [hpk], by rw [hpk], hc⟩
    exact cntT_one (ents_nodup2 h) he
theorem cntT_app (a b : List DEntry) (s : ByteArray) : cntT (a ++ b) s = cntT a s + cntT b s := by simp [cntT]
theorem sumE_app (a b : List DEntry) : sumE (a ++ b) = sumE a + sumE b := by simp [sumE]
theorem countOf_empty (m : List DFrame) : countOf emptyP m = 0 := countOf_none fun _ hk => absurd hk (Nat.not_lt_zero _)
theorem total_empty : totalOf emptyP = 0 := by
  unfold totalOf
  rw [if_pos emptyP_ok]
  rfl
/-- a profile made of entries -/
theorem profR_yes2 {l : List DEntry} (he : ∀ e ∈ l, entOk e) (ht : sumE l ≤ 1000000000000) :
    (profR l).2 = true ∧ profileOk (profR l).1 = true ∧ totalOf (profR l).1 = sumE l ∧ ∀ m, m ≠ [] → m.all frameOk = true → countOf (profR l).1 m = cntT l (fmtF m) := by
  obtain ⟨q, h1, h2, h3, h4⟩ := profL_yes emptyP_ok he (by rw [total_empty]; omega)
  rw [profR_yes h1]
  refine ⟨rfl, h2, by rw [h3, total_empty]; omega, fun m hm ha => by rw [h4 m hm ha, countOf_empty]; omega⟩
theorem count_ext {p q : DProfile} (h : ∀ m, m ≠ [] → m.all frameOk = true → countOf p m = countOf q m) (m : List DFrame) : countOf p m = countOf q m := by
  by_cases h1 : m ≠ [] ∧ m.all frameOk = true
  · exact h m h1.1 h1.2
  · have h2 : countOf p m = 0 := Decidable.byContradiction fun hc => h1 (stack_ok hc)
    have h3 : countOf q m = 0 := Decidable.byContradiction fun hc => h1 (stack_ok hc)
    rw [h2, h3]
/-- a profile is the one of its entries -/
theorem back_ents {p : DProfile} (h : profileOk p = true) : (profR (entriesOf p)).2 = true ∧ profileOk (profR (entriesOf p)).1 = true ∧ entriesOf (profR (entriesOf p)).1 = entriesOf p ∧ totalOf (profR (entriesOf p)).1 = totalOf p := by
  have hb := total_bd h
  obtain ⟨h1, h2, h3, h4⟩ := profR_yes2 (fun e he => ents_entOk he) (by rw [sumE_ents h]; exact hb.2)
  refine ⟨h1, h2, ents_ext h2 h (count_ext fun m hm ha => by rw [h4 m hm ha, cntT_ents h hm ha]), by rw [h3, sumE_ents h]⟩
theorem merge_spec {p q : DProfile} (hp : profileOk p = true) (hq : profileOk q = true) (ht : totalOf p + totalOf q ≤ 1000000000000) :
    (mergeP p q).2 = true ∧ profileOk (mergeP p q).1 = true ∧ totalOf (mergeP p q).1 = totalOf p + totalOf q ∧ ∀ m, countOf (mergeP p q).1 m = countOf p m + countOf q m := by
  have hm : mergeP p q = profR (entriesOf p ++ entriesOf q) := by simp [mergeP, hp, hq]
  rw [hm]
  obtain ⟨h1, h2, h3, h4⟩ := profR_yes2 (l := entriesOf p ++ entriesOf q) (fun e he => (List.mem_append.1 he).elim ents_entOk ents_entOk) (by rw [sumE_app, sumE_ents hp, sumE_ents hq]; exact ht)
  refine ⟨h1, h2, by rw [h3, sumE_app, sumE_ents hp, sumE_ents hq], fun m => ?_⟩
  by_cases hmm : m ≠ [] ∧ m.all frameOk = true
  · rw [h4 m hmm.1 hmm.2, cntT_app, cntT_ents hp hmm.1 hmm.2, cntT_ents hq hmm.1 hmm.2]
  · have hz : ∀ r : DProfile, countOf r m = 0 := fun r => Decidable.byContradiction fun hc => hmm (stack_ok hc)
    rw [hz, hz, hz]
    rfl
theorem ents_strict {p : DProfile} (h : profileOk p = true) {k : Nat} {x y : DEntry} (hx : (entriesOf p)[k]? = some x) (hy : (entriesOf p)[k + 1]? = some y) : bl x.Stack < bl y.Stack := by
  have h1 := ents_le (p := p)
  have h2 := ents_nodup2 h
  obtain ⟨hk, hx⟩ := List.getElem?_eq_some_iff.1 hx
  obtain ⟨hk2, hy⟩ := List.getElem?_eq_some_iff.1 hy
  have h3 := List.pairwise_iff_getElem.1 h1 k (k + 1) hk hk2 (by omega)
  rw [hx, hy] at h3
  have h4 : bl x.Stack ≠ bl y.Stack := by
    intro e
    have h5 := List.pairwise_iff_getElem.1 h2 k (k + 1) (by simpa using hk) (by simpa using hk2) (by omega)
    simp only [List.getElem_map, hx, hy] at h5
    exact h5 e
  exact bl_lt_of (bl_le_of_not h3) h4
end Go.Proofs.YtdlkoffandhclaaGreatDoor
namespace Go.Proofs.YtdlkoffandhclaaGreatDoor
open Go.RowKit
theorem ints_rows {w : World} : ∀ {xs : List Int}, (∀ x ∈ xs, I64 x) → Rows intT w (xs.map (Value.int .i64)) xs []
  | [], _ => ⟨rfl, rfl⟩
  | x :: xs, h => ⟨[.int .i64 x], xs.map (Value.int .i64), [], [], rfl, rfl, ⟨rfl, (h x List.mem_cons_self).1, (h x List.mem_cons_self).2, rfl⟩, ints_rows fun y hy => h y (List.mem_cons_of_mem _ hy)⟩
theorem ints_own {W : World} {e : TypeId} {cs : Array Value} {n g : Nat} (xs : List Int) (hcs : cs.toList = xs.map (Value.int .i64)) (hn : n = xs.length) (hg : g = W.heap.size) (hb : ∀ x ∈ xs, I64 x) (hl : xs.length ≤ 1000) : FrN (intT.sl e) g (g + 1) (W.alloc (.cells cs e)) [.slice (some ⟨g, 0, none⟩) n n] xs := by
  subst hn hg
  have h : (intT.sl e).O (W.alloc (.cells cs e)) [.slice (some ⟨W.heap.size, 0, none⟩) xs.length xs.length] xs (W.heap.size :: []) :=
    own_made (heap_alloc_new W _) (by rw [hcs]; exact ints_rows hb) (by omega)
  exact ⟨_, h, by simp, fun b hb => by simp at hb; omega⟩
theorem blk_only {W X Y : World} {g k : Nat} {o : Obj} (h : W.heap[g]? = some o) (hG : Gro W X) (hS : OnlyS [k] X Y) (hne : g ≠ k) : Y.heap[g]? = some o := by
  have hl : g < W.heap.size := (Array.getElem?_eq_some_iff.1 h).1
  exact (hS.block g (Nat.lt_of_lt_of_le hl hG.size) (by simpa using hne)).trans ((hG.block hl).trans h)
theorem ints_blk {W : World} {g : Nat} {cs : Array Value} {e : TypeId} {n : Nat} (h : W.heap[g]? = some (.cells cs e (0, 0))) (xs : List Int) (hcs : cs.toList = xs.map (Value.int .i64)) (hn : n = xs.length) (hb : ∀ x ∈ xs, I64 x) (hl : xs.length ≤ 1000) : (intT.sl e).R W W.heap.size [.slice (some ⟨g, 0, none⟩) n n] xs := by
  subst hn
  have h : (intT.sl e).O W [.slice (some ⟨g, 0, none⟩) xs.length xs.length] xs (g :: []) := own_made h (by rw [hcs]; exact ints_rows hb) (by omega)
  exact Ty.read _ h
/-- a good, small profile -/
def dp (p : DProfile) : Prop := profileOk p = true ∧ totalOf p ≤ 280 ∧ p.Stacks.Nodes.length ≤ 28
set_option maxRecDepth 100000 in
set_option maxHeartbeats 8000000 in
theorem prof_s {w W : World} {k : Nat} (hC : Cur w W k) : Calls Tryz.prog 50 #[.pointer (some ⟨k, 0, none⟩)] W fun e W' => ∃ (p : DProfile) (A0 : Option Addr) (c0 : Nat) (A1 : Option Addr) (c1 : Nat), e = .returned (.agg #[.slice A0 p.Stacks.Nodes.length c0, .slice A1 p.Counts.length c1]) ∧ dp p ∧ Cur w W' k ∧ OnlyS [k] W W' ∧ FrN tProfile W.heap.size W'.heap.size W' [.slice A0 p.Stacks.Nodes.length c0, .slice A1 p.Counts.length c1] p := by
  have hk := hC.lt
  have hlo := hC.lo
  have hI : ∀ x ∈ ([1, 1, 2, 5, 40] : List Int), I64 x := by intro x hx; simp at hx; constructor <;> omega
  go_enter Tryz.func50, Tryz.ntmps50
  go_wp2_with (fail)
  refine (below_s (hC.more (by repeat (first | with_reducible exact Gro.refl _ | with_reducible exact Gro.refl_drew _ _ _ | with_reducible exact Gro.refl_drewN _ _ _ _ | assumption | with_reducible apply Gro.more | with_reducible apply Gro.alloc | with_reducible apply Gro.drew | with_reducible apply Gro.drewN))) 8 (by decide) (by decide)).mono ?_
  rintro e W2 ⟨x2, rfl, hx2, hC2, hS2⟩
  have e2 : W2.heap[W.heap.size]? = some (.cells #[.slice none 0 0, .slice none 0 0] 33 (0, 0)) := blk_only (heap_alloc_new W _) (by repeat (first | with_reducible exact Gro.refl _ | with_reducible exact Gro.refl_drew _ _ _ | with_reducible exact Gro.refl_drewN _ _ _ _ | assumption | with_reducible apply Gro.more | with_reducible apply Gro.alloc | with_reducible apply Gro.drew | with_reducible apply Gro.drewN)) hS2 (by omega)
  have e3 : W2.heap[W.heap.size + 1]? = some (.cells #[.slice none 0 0, .slice none 0 0] 33 (0, 0)) := blk_only (W := (W.alloc (.cells #[.slice none 0 0, .slice none 0 0] 33)).alloc (.cells #[.slice none 0 0, .slice none 0 0] 33)) (by have := heap_alloc_new (W.alloc (.cells #[.slice none 0 0, .slice none 0 0] 33)) (.cells #[.slice none 0 0, .slice none 0 0] 33); simpa using this) (by repeat (first | with_reducible exact Gro.refl _ | with_reducible exact Gro.refl_drew _ _ _ | with_reducible exact Gro.refl_drewN _ _ _ _ | assumption | with_reducible apply Gro.more | with_reducible apply Gro.alloc | with_reducible apply Gro.drew | with_reducible apply Gro.drewN)) hS2 (by omega)
  have hz2 := hS2.size
  simp at hz2
  have hS2' : OnlyS [k] W W2 := (Gro.only (by repeat (first | with_reducible exact Gro.refl _ | with_reducible exact Gro.refl_drew _ _ _ | with_reducible exact Gro.refl_drewN _ _ _ _ | assumption | with_reducible apply Gro.more | with_reducible apply Gro.alloc | with_reducible apply Gro.drew | with_reducible apply Gro.drewN)) _).trans hS2
  go_wp2_with (fail)
  go_loopw [4] (fun b wr => ∃ (j : Nat) (p : DProfile) (A0 : Option Addr) (c0 : Nat) (A1 : Option Addr) (c1 : Nat), b = .int .i64 j ∧ j ≤ 7 ∧ Hid (profileOk p = true) ∧ totalOf p + 40 * j ≤ 280 ∧ p.Stacks.Nodes.length + 4 * j ≤ 28 ∧ p.Counts.length ≤ 28 ∧ Cur w wr k ∧ OnlyS [k] W wr ∧ W.heap.size + 2 ≤ wr.heap.size ∧ Hid (wr.heap[W.heap.size]? = some (.cells #[.slice none 0 0, .slice none 0 0] 33 (0, 0))) ∧ Hid (wr.heap[W.heap.size + 1]? = some (.cells #[.slice A0 p.Stacks.Nodes.length c0, .slice A1 p.Counts.length c1] 33 (0, 0))) ∧ FrN tProfile (W.heap.size + 2) wr.heap.size wr [.slice A0 p.Stacks.Nodes.length c0, .slice A1 p.Counts.length c1] p) (fun b _ => (intOf b).toNat)
  case atStart =>
    have h0 : FrN tProfile (W.heap.size + 2) W2.heap.size W2 [.slice none 0 0, .slice none 0 0] emptyP := by
      obtain ⟨S, h1, h2, h3⟩ := fresh_emptyP W2 W2
      exact ⟨S, h1, h2, fun b hb => by have := h3 b hb; have := tProfile.ltO h1 b hb; omega⟩
    exact ⟨x2, emptyP, none, 0, none, 0, rfl, by omega, Lib.hid emptyP_ok, by rw [total_empty]; omega, by show 0 + 4 * x2 ≤ 28; omega, Nat.zero_le _, hC2, hS2', hz2, Lib.hid e2, Lib.hid e3, h0⟩
  case round =>
    obtain ⟨j, p, A0, c0, A1, c1, rfl, hj, hpok, hpt, hpn, hpc, hC3, hS3, hz3, hb2, hb3, hF3⟩ := hrel
    have hk3 := hC3.lt
    have ht0 := (total_bd hpok.out).1
    obtain ⟨q0, q1, qf0, qf1, ql⟩ := box2 hb3.out
    by_cases hlt : 0 < j
    · go_wp2_with (fail)
      go_region_law (first
        | (go_simp; go_at_call 80; (with_reducible refine (stack_s (hC3.more (by (repeat (first | with_reducible exact Gro.refl _ | with_reducible exact Gro.refl_drew _ _ _ | with_reducible exact Gro.refl_drewN _ _ _ _ | assumption | with_reducible apply Gro.more | with_reducible apply Gro.alloc | with_reducible apply Gro.drew | with_reducible apply Gro.drewN)); done))).mono ?_); rintro e W4 ⟨A4, c4, fs, rfl, hfs, hfl, hC4, hS4, hF4⟩; have hb4 := blk_only hb3.out (by repeat (first | with_reducible exact Gro.refl _ | with_reducible exact Gro.refl_drew _ _ _ | with_reducible exact Gro.refl_drewN _ _ _ _ | assumption | with_reducible apply Gro.more | with_reducible apply Gro.alloc | with_reducible apply Gro.drew | with_reducible apply Gro.drewN)) hS4 (by omega); obtain ⟨r0, r1, rf0, rf1, rl⟩ := box2 hb4; (try (have hg5 : W4.heap[wr.heap.size]? = some (.cells #[.int .i64 1, .int .i64 1, .int .i64 2, .int .i64 5, .int .i64 40] 3 (0, 0)) := (hS4.block _ (by simp) (by simp; omega)).trans (heap_alloc_new wr _))))
        | (go_simp; go_at_call 81; have hR5 := ints_blk (n := 5) hg5 [1, 1, 2, 5, 40] rfl rfl hI (by decide); (with_reducible refine (pick_s (hC4.more (by (repeat (first | with_reducible exact Gro.refl _ | with_reducible exact Gro.refl_drew _ _ _ | with_reducible exact Gro.refl_drewN _ _ _ _ | assumption | with_reducible apply Gro.more | with_reducible apply Gro.alloc | with_reducible apply Gro.drew | with_reducible apply Gro.drewN)); done)) (xs := [1, 1, 2, 5, 40]) (Ty.up _ hR5 (by repeat (first | with_reducible exact Gro.refl _ | with_reducible exact Gro.refl_drew _ _ _ | with_reducible exact Gro.refl_drewN _ _ _ _ | assumption | with_reducible apply Gro.more | with_reducible apply Gro.alloc | with_reducible apply Gro.drew | with_reducible apply Gro.drewN))) (fun ad h => by injection h with h; subst h; simp; omega) (by omega) (by omega)).mono ?_); rintro e W5 ⟨n, rfl, hn, hC5, hS5⟩; have hb5 := blk_only hb4 (by repeat (first | with_reducible exact Gro.refl _ | with_reducible exact Gro.refl_drew _ _ _ | with_reducible exact Gro.refl_drewN _ _ _ _ | assumption | with_reducible apply Gro.more | with_reducible apply Gro.alloc | with_reducible apply Gro.drew | with_reducible apply Gro.drewN)) hS5 (by omega); obtain ⟨s0, s1, sf0, sf1, sl⟩ := box2 hb5)
        | (go_simp; go_at_call 81; have hk4 := hC4.lt; have hR5 := ints_blk (n := 5) (heap_alloc_new W4 (.cells #[.int .i64 1, .int .i64 1, .int .i64 2, .int .i64 5, .int .i64 40] 3)) [1, 1, 2, 5, 40] rfl rfl hI (by decide); (with_reducible refine (pick_s (hC4.more (by (repeat (first | with_reducible exact Gro.refl _ | with_reducible exact Gro.refl_drew _ _ _ | with_reducible exact Gro.refl_drewN _ _ _ _ | assumption | with_reducible apply Gro.more | with_reducible apply Gro.alloc | with_reducible apply Gro.drew | with_reducible apply Gro.drewN)); done)) (xs := [1, 1, 2, 5, 40]) (Ty.up _ hR5 (by repeat (first | with_reducible exact Gro.refl _ | with_reducible exact Gro.refl_drew _ _ _ | with_reducible exact Gro.refl_drewN _ _ _ _ | assumption | with_reducible apply Gro.more | with_reducible apply Gro.alloc | with_reducible apply Gro.drew | with_reducible apply Gro.drewN))) (fun ad h => by injection h with h; subst h; simp; omega) (by omega) (by omega)).mono ?_); rintro e W5 ⟨n, rfl, hn, hC5, hS5⟩; have hb5 := blk_only hb4 (by repeat (first | with_reducible exact Gro.refl _ | with_reducible exact Gro.refl_drew _ _ _ | with_reducible exact Gro.refl_drewN _ _ _ _ | assumption | with_reducible apply Gro.more | with_reducible apply Gro.alloc | with_reducible apply Gro.drew | with_reducible apply Gro.drewN)) hS5 (by omega); obtain ⟨s0, s1, sf0, sf1, sl⟩ := box2 hb5)
        | (go_simp; go_at_call 61; have hSS : OnlyS [k] wr W5 := (Gro.only (by repeat (first | with_reducible exact Gro.refl _ | with_reducible exact Gro.refl_drew _ _ _ | with_reducible exact Gro.refl_drewN _ _ _ _ | assumption | with_reducible apply Gro.more | with_reducible apply Gro.alloc | with_reducible apply Gro.drew | with_reducible apply Gro.drewN)) _).trans (hS4.trans ((Gro.only (by repeat (first | with_reducible exact Gro.refl _ | with_reducible exact Gro.refl_drew _ _ _ | with_reducible exact Gro.refl_drewN _ _ _ _ | assumption | with_reducible apply Gro.more | with_reducible apply Gro.alloc | with_reducible apply Gro.drew | with_reducible apply Gro.drewN)) _).trans hS5)); have hFp := hF3.only hSS (by omega); have hs4 := hS4.size; have hFs := (hF4.gro (w2 := _) (by (repeat (first | with_reducible exact Gro.refl _ | with_reducible exact Gro.refl_drew _ _ _ | with_reducible exact Gro.refl_drewN _ _ _ _ | assumption | with_reducible apply Gro.more | with_reducible apply Gro.alloc | with_reducible apply Gro.drew | with_reducible apply Gro.drewN)); done)).only hS5 (by first | omega | (simp; omega)); have hnb : 0 ≤ n ∧ n ≤ 40 := (by simp at hn; omega); obtain ⟨q, hq⟩ := addStack_yes hpok.out hnb.1 hfs.1 hfs.2 (by omega); (with_reducible refine (addStack_s (p := p) (l := fs) (n := n) (Ty.up _ (rdProf hFp.read).1 (by repeat (first | with_reducible exact Gro.refl _ | with_reducible exact Gro.refl_drew _ _ _ | with_reducible exact Gro.refl_drewN _ _ _ _ | assumption | with_reducible apply Gro.more | with_reducible apply Gro.alloc | with_reducible apply Gro.drew | with_reducible apply Gro.drewN))) (Ty.up _ (rdProf hFp.read).2 (by repeat (first | with_reducible exact Gro.refl _ | with_reducible exact Gro.refl_drew _ _ _ | with_reducible exact Gro.refl_drewN _ _ _ _ | assumption | with_reducible apply Gro.more | with_reducible apply Gro.alloc | with_reducible apply Gro.drew | with_reducible apply Gro.drewN))) (Ty.up _ hFs.read (by repeat (first | with_reducible exact Gro.refl _ | with_reducible exact Gro.refl_drew _ _ _ | with_reducible exact Gro.refl_drewN _ _ _ _ | assumption | with_reducible apply Gro.more | with_reducible apply Gro.alloc | with_reducible apply Gro.drew | with_reducible apply Gro.drewN))) (by omega) (by omega) (by omega)).mono ?_); rw [hq]; rintro e W6 ⟨A6, c6, A7, c7, rfl, hF6, os6, d6, rfl⟩))
      all_goals go_wp2_with (fail)
      all_goals go_roundw
      all_goals try (case measure => simp [intOf]; omega)
      all_goals
        have hqs := addStack_spec hq
        have hqt := addStack_total hq
        have hql := addStack_len p fs n
        rw [hq] at hql
        have hqc := pOk_len hqs.2.1
        have h2 := set2 hb5 (.slice A6 q.Stacks.Nodes.length c6) (.slice A7 q.Counts.length c7)
        have t4 := blk_only hb2.out (by repeat (first | with_reducible exact Gro.refl _ | with_reducible exact Gro.refl_drew _ _ _ | with_reducible exact Gro.refl_drewN _ _ _ _ | assumption | with_reducible apply Gro.more | with_reducible apply Gro.alloc | with_reducible apply Gro.drew | with_reducible apply Gro.drewN)) hS4 (by omega)
        have t5 := blk_only t4 (by repeat (first | with_reducible exact Gro.refl _ | with_reducible exact Gro.refl_drew _ _ _ | with_reducible exact Gro.refl_drewN _ _ _ _ | assumption | with_reducible apply Gro.more | with_reducible apply Gro.alloc | with_reducible apply Gro.drew | with_reducible apply Gro.drewN)) hS5 (by omega)
        have hz5 := h2.2.size
        have hbl : Below W.heap.size W5 (gro ((W5.setCell ⟨W.heap.size + 1, 0, none⟩ (.slice A6 q.Stacks.Nodes.length c6)).setCell ⟨W.heap.size + 1, 1, none⟩ (.slice A7 q.Counts.length c7)) os6 d6) := (only_below h2.2 (by omega) sl).trans ((Gro.of _ _ _).below.mono (by omega))
        simp only at hql
        refine ⟨j - 1, q, A6, c6, A7, c7, by go_num, by omega, Lib.hid hqs.2.1, by omega, by omega, by omega, (hC5.only h2.2 (by simp; omega) (fun b hb => by simp at hb; omega)).more (Gro.of _ _ _), (hS3.trans hSS).below hbl (Nat.le_refl _), by have := hbl.size; omega, Lib.hid ?_, Lib.hid ?_, ?_⟩
        · exact (gro_get _ _ _ (by omega)).trans ((h2.2.block W.heap.size (by omega) (by simp)).trans t5)
        · exact (gro_get _ _ _ (by omega)).trans h2.1
        · exact ((hF6.frN.same (Same.base (by simp) (Nat.le_refl _))).wide (by first | omega | (simp; omega)) (by simp))
    · obtain rfl : j = 0 := by omega
      obtain ⟨y0, y1, yf0, yf1, yl⟩ := box2 hb2.out
      go_wp2_with (fail)
      have h2 := set2 hb2.out (.slice A0 p.Stacks.Nodes.length c0) (.slice A1 p.Counts.length c1)
      have ha := box2 h2.1
      refine bodyPost_ret (v := .agg #[.slice A0 p.Stacks.Nodes.length c0, .slice A1 p.Counts.length c1]) (by simp [results, Tryz.results50, go_sem, ha]) rfl ⟨p, A0, c0, A1, c1, rfl, ⟨hpok.out, by omega, by omega⟩, hC3.only h2.2 (by simp; omega) (fun b hb => by simp at hb; omega), hS3.below (only_below h2.2 (Nat.le_refl _) yl) (Nat.le_refl _), (hF3.only h2.2 (by omega)).wide (by omega) h2.2.size⟩
set_option maxRecDepth 100000 in
set_option maxHeartbeats 8000000 in
theorem profs_s {w : World} {A : Option Addr} {n c : Nat} {xs : List UInt8} (hx : (byteT.sl 5).R w w.heap.size [.slice A n c] xs) (hl : xs.length ≤ 1099511627776) : Calls Tryz.prog 16 #[.slice A n c] w fun e W' => ∃ (p q : DProfile) (A0 : Option Addr) (c0 : Nat) (A1 : Option Addr) (c1 : Nat) (A2 : Option Addr) (c2 : Nat) (A3 : Option Addr) (c3 : Nat), e = .returned (.tuple #[.agg #[.slice A0 p.Stacks.Nodes.length c0, .slice A1 p.Counts.length c1], .agg #[.slice A2 q.Stacks.Nodes.length c2, .slice A3 q.Counts.length c3]]) ∧ dp p ∧ dp q ∧ Gro w W' ∧ tProfile.R W' W'.heap.size [.slice A0 p.Stacks.Nodes.length c0, .slice A1 p.Counts.length c1] p ∧ tProfile.R W' W'.heap.size [.slice A2 q.Stacks.Nodes.length c2, .slice A3 q.Counts.length c3] q := by
  go_enter Tryz.func16, Tryz.ntmps16
  go_wp2_with (fail)
  refine (new_s (Ty.up _ hx (by repeat (first | with_reducible exact Gro.refl _ | with_reducible exact Gro.refl_drew _ _ _ | with_reducible exact Gro.refl_drewN _ _ _ _ | assumption | with_reducible apply Gro.more | with_reducible apply Gro.alloc | with_reducible apply Gro.drew | with_reducible apply Gro.drewN))) hl).mono ?_
  rintro e W1 ⟨k, rfl, hC1⟩
  have hk1 := hC1.lt
  have hlo := hC1.lo
  simp at hlo
  have e2 : W1.heap[w.heap.size]? = some (.cells #[.slice none 0 0, .slice none 0 0] 33 (0, 0)) := (hC1.gro.block (by simp; omega)).trans ((((Gro.refl _).alloc _).block (by simp)).trans (heap_alloc_new w _))
  have e3 : W1.heap[w.heap.size + 1]? = some (.cells #[.slice none 0 0, .slice none 0 0] 33 (0, 0)) := (hC1.gro.block (by simp)).trans (by have := heap_alloc_new (w.alloc (.cells #[.slice none 0 0, .slice none 0 0] 33)) (.cells #[.slice none 0 0, .slice none 0 0] 33); simpa using this)
  go_wp2_with (fail)
  refine (prof_s hC1).mono ?_
  rintro e W2 ⟨p, A0, c0, A1, c1, rfl, hp, hC2, hS2, hF2⟩
  have hk2 := hC2.lt
  have hz2 := hS2.size
  have f2 := blk_only e2 (Gro.refl _) hS2 (by omega)
  have f3 := blk_only e3 (Gro.refl _) hS2 (by omega)
  go_wp2_with (fail)
  go_region_law (first
    | (go_simp; go_at_call 50; (with_reducible refine (prof_s (hC2.more (by (repeat (first | with_reducible exact Gro.refl _ | with_reducible exact Gro.refl_drew _ _ _ | with_reducible exact Gro.refl_drewN _ _ _ _ | assumption | with_reducible apply Gro.more | with_reducible apply Gro.alloc | with_reducible apply Gro.drew | with_reducible apply Gro.drewN)); done))).mono ?_); rintro e W3 ⟨q, A2, c2, A3, c3, rfl, hq, hC3, hS3, hF3⟩; have g2 := blk_only f2 (by repeat (first | with_reducible exact Gro.refl _ | with_reducible exact Gro.refl_drew _ _ _ | with_reducible exact Gro.refl_drewN _ _ _ _ | assumption | with_reducible apply Gro.more | with_reducible apply Gro.alloc | with_reducible apply Gro.drew | with_reducible apply Gro.drewN)) hS3 (by omega); have g3 := blk_only f3 (by repeat (first | with_reducible exact Gro.refl _ | with_reducible exact Gro.refl_drew _ _ _ | with_reducible exact Gro.refl_drewN _ _ _ _ | assumption | with_reducible apply Gro.more | with_reducible apply Gro.alloc | with_reducible apply Gro.drew | with_reducible apply Gro.drewN)) hS3 (by omega); have g5 := blk_only (heap_alloc_new W2 (.cells #[.slice A0 p.Stacks.Nodes.length c0, .slice A1 p.Counts.length c1] 33)) (by repeat (first | with_reducible exact Gro.refl _ | with_reducible exact Gro.refl_drew _ _ _ | with_reducible exact Gro.refl_drewN _ _ _ _ | assumption | with_reducible apply Gro.more | with_reducible apply Gro.alloc | with_reducible apply Gro.drew | with_reducible apply Gro.drewN)) hS3 (by omega); obtain ⟨r0, r1, rf0, rf1, rl⟩ := box2 g2; obtain ⟨s0, s1, sf0, sf1, sl⟩ := box2 g3; obtain ⟨t0, t1, tf0, tf1, tl⟩ := box2 g5; have hz3 := hS3.size; have hFp := (hF2.gro (w2 := _) (by (repeat (first | with_reducible exact Gro.refl _ | with_reducible exact Gro.refl_drew _ _ _ | with_reducible exact Gro.refl_drewN _ _ _ _ | assumption | with_reducible apply Gro.more | with_reducible apply Gro.alloc | with_reducible apply Gro.drew | with_reducible apply Gro.drewN)); done)).only hS3 (by omega)))
  all_goals go_wp2_with (fail)
  all_goals first
    | (have hne : w.heap.size ≠ w.heap.size + 1 := by omega
       have h2 := set2 g2 (.slice A0 p.Stacks.Nodes.length c0) (.slice A1 p.Counts.length c1)
       have h3 := set2 ((h2.2.block (w.heap.size + 1) (by omega) (by simp)).trans g3) (.slice A2 q.Stacks.Nodes.length c2) (.slice A3 q.Counts.length c3)
       have hx := box2 ((h3.2.block (w.heap.size) (by have := h2.2.size; omega) (by simp)).trans h2.1)
       have hy := box2 h3.1
       have hon : OnlyS [w.heap.size, w.heap.size + 1] W3 _ := (h2.2.mono (fun b hb => by simp at hb; simp [hb])).trans (h3.2.mono (fun b hb => by simp at hb; simp [hb]))
       have hwl : w.heap.size + 2 ≤ W1.heap.size := by omega
       have hpr := (hFp.onlyL hon (by intro b hb; simp at hb; omega)).read
       have hqr := (hF3.onlyL hon (by intro b hb; simp at hb; simp; omega)).read
       refine bodyPost_ret (v := .tuple #[.agg #[.slice A0 p.Stacks.Nodes.length c0, .slice A1 p.Counts.length c1], .agg #[.slice A2 q.Stacks.Nodes.length c2, .slice A3 q.Counts.length c3]]) (by simp [results, Tryz.results16, go_sem, hx, hy]) rfl ⟨p, q, A0, c0, A1, c1, A2, c2, A3, c3, rfl, hp, hq, hon.gro ?_ (by intro b hb; simp at hb; omega), hpr, hqr⟩
       exact Gro.trans ((Gro.refl w).alloc _ |>.alloc _) hC3.gro)
    | (have hne : w.heap.size ≠ w.heap.size + 1 := by omega
       have h2 := set2 g3 (.slice A2 q.Stacks.Nodes.length c2) (.slice A3 q.Counts.length c3)
       have h3 := set2 ((h2.2.block (w.heap.size) (by omega) (by simp)).trans g2) (.slice A0 p.Stacks.Nodes.length c0) (.slice A1 p.Counts.length c1)
       have hx := box2 ((h3.2.block (w.heap.size + 1) (by have := h2.2.size; omega) (by simp)).trans h2.1)
       have hy := box2 h3.1
       have hon : OnlyS [w.heap.size, w.heap.size + 1] W3 _ := (h2.2.mono (fun b hb => by simp at hb; simp [hb])).trans (h3.2.mono (fun b hb => by simp at hb; simp [hb]))
       have hwl : w.heap.size + 2 ≤ W1.heap.size := by omega
       have hpr := (hFp.onlyL hon (by intro b hb; simp at hb; omega)).read
       have hqr := (hF3.onlyL hon (by intro b hb; simp at hb; simp; omega)).read
       refine bodyPost_ret (v := .tuple #[.agg #[.slice A0 p.Stacks.Nodes.length c0, .slice A1 p.Counts.length c1], .agg #[.slice A2 q.Stacks.Nodes.length c2, .slice A3 q.Counts.length c3]]) (by simp [results, Tryz.results16, go_sem, hx, hy]) rfl ⟨p, q, A0, c0, A1, c1, A2, c2, A3, c3, rfl, hp, hq, hon.gro ?_ (by intro b hb; simp at hb; omega), hpr, hqr⟩
       exact Gro.trans ((Gro.refl w).alloc _ |>.alloc _) hC3.gro)
end Go.Proofs.YtdlkoffandhclaaGreatDoor
namespace Go.Proofs.YtdlkoffandhclaaGreatDoor
open Go.RowKit
set_option maxRecDepth 100000 in
set_option maxHeartbeats 2000000 in
theorem sameEntries_l {xs ys : List DEntry} {w : World} {A A' : Option Addr} {c c' : Nat} (hx : (tEntry.sl 48).R w w.heap.size [.slice A xs.length c] xs) (hy : (tEntry.sl 48).R w w.heap.size [.slice A' ys.length c'] ys) :
    Calls Tryz.prog 21 #[.slice A xs.length c, .slice A' ys.length c'] w fun e w' => e = .returned (.bool (decide (xs = ys))) ∧ Gro w w' := by
  obtain ⟨_, _, hv, h1, h2⟩ := sl_at hx
  obtain ⟨_, _, hv', k1, k2⟩ := sl_at hy
  injection hv with q1 _ q2
  injection hv' with q3 _ q4
  subst q1 q2 q3 q4
  by_cases hl : xs.length = ys.length
  · have hne : ((xs.length : Int) != (ys.length : Int)) = false := by simp [hl]
    have HL := Lib.hid hl
    have hll : xs.length ≤ ys.length := by omega
    clear hl
    go_enter Tryz.func21, Tryz.ntmps21
    go_wp2_with (fail)
    go_loopw [5] (fun i wr => ∃ k : Nat, k ≤ xs.length ∧ i = .int .i64 k ∧ Hid (Gro w wr) ∧ Hid (xs.take k = ys.take k)) (fun i _ => xs.length - (intOf i).toNat)
    case atStart => exact ⟨0, Nat.zero_le _, rfl, Gro.refl _, Lib.hid (by simp)⟩
    case round =>
      obtain ⟨k, hk, rfl, hG, HT⟩ := hrel
      obtain ⟨os, d, rfl⟩ := hG.out
      clear hG
      by_cases hlt : k < xs.length
      · have hlt2 : k < ys.length := by omega
        obtain ⟨g, off, x, rfl, hgb, hxk, hx0, hx1, bx0, bx1⟩ := atEntry hx hlt
        obtain ⟨g', off', y, rfl, hgb', hyk, hy0, hy1, by0, by1⟩ := atEntry hy hlt2
        have HX := Lib.hid hxk
        have HY := Lib.hid hyk
        have hi1 : (k : Int) < (xs.length : Int) := by omega
        have hi2 : (k : Int) < (ys.length : Int) := by omega
        clear hxk hyk hx hy
        by_cases hs : x.Stack = y.Stack
        · have hsb : (x.Stack.toList == y.Stack.toList) = true := by rw [str_eqb]; simp [hs]
          by_cases hc : x.Count = y.Count
          · have hcb : (x.Count == y.Count) = true := by simp [hc]
            have HXY := Lib.hid (show x = y from by cases x; cases y; simp only at hs hc; rw [hs, hc])
            clear hs hc
            go_wp2_with (fail)
            go_quiet (fail)
            go_wp2_with (fail)
            go_roundw
            case rel => exact ⟨k + 1, by omega, by go_num, Lib.hid (by repeat (first | with_reducible exact Gro.refl _ | with_reducible exact Gro.refl_drew _ _ _ | with_reducible exact Gro.refl_drewN _ _ _ _ | assumption | with_reducible apply Gro.more | with_reducible apply Gro.alloc | with_reducible apply Gro.drew | with_reducible apply Gro.drewN)), Lib.hid (by rw [take_snoc HX.out, take_snoc HY.out, HT.out, HXY.out])⟩
            case measure => simp [intOf]; omega
          · have hcb : (x.Count == y.Count) = false := by simp [hc]
            have HXY := Lib.hid (show x ≠ y from by rintro rfl; exact hc rfl)
            clear hs hc
            go_wp2_with (fail)
            go_quiet (fail)
            go_wp2_with (fail)
            go_ret
            refine ⟨ret_bool ?_, (by repeat (first | with_reducible exact Gro.refl _ | with_reducible exact Gro.refl_drew _ _ _ | with_reducible exact Gro.refl_drewN _ _ _ _ | assumption | with_reducible apply Gro.more | with_reducible apply Gro.alloc | with_reducible apply Gro.drew | with_reducible apply Gro.drewN))⟩
            symm
            simp only [decide_eq_false_iff_not]
            rintro rfl
            have h9 := HX.out.symm.trans HY.out
            simp at h9
            exact HXY.out h9
        · have hsb : (x.Stack.toList == y.Stack.toList) = false := by rw [str_eqb]; simp [hs]
          have HXY := Lib.hid (show x ≠ y from by rintro rfl; exact hs rfl)
          clear hs
          go_wp2_with (fail)
          go_quiet (fail)
          go_wp2_with (fail)
          go_ret
          refine ⟨ret_bool ?_, (by repeat (first | with_reducible exact Gro.refl _ | with_reducible exact Gro.refl_drew _ _ _ | with_reducible exact Gro.refl_drewN _ _ _ _ | assumption | with_reducible apply Gro.more | with_reducible apply Gro.alloc | with_reducible apply Gro.drew | with_reducible apply Gro.drewN))⟩
          symm
          simp only [decide_eq_false_iff_not]
          rintro rfl
          have h9 := HX.out.symm.trans HY.out
          simp at h9
          exact HXY.out h9
      · go_wp2
        go_ret
        refine ⟨ret_bool ?_, (by repeat (first | with_reducible exact Gro.refl _ | with_reducible exact Gro.refl_drew _ _ _ | with_reducible exact Gro.refl_drewN _ _ _ _ | assumption | with_reducible apply Gro.more | with_reducible apply Gro.alloc | with_reducible apply Gro.drew | with_reducible apply Gro.drewN))⟩
        have : k = xs.length := by omega
        subst this
        have h1 := HT.out
        rw [HL.out] at h1
        simp only [List.take_length] at h1
        rw [← HL.out] at h1
        simp at h1
        simp [h1]
  · have hne : ((xs.length : Int) != (ys.length : Int)) = true := by simp; omega
    go_enter Tryz.func21, Tryz.ntmps21
    go_wp2
    go_ret
    exact ⟨ret_bool (by symm; simp only [decide_eq_false_iff_not]; rintro rfl; exact hl rfl), Gro.refl _⟩
end Go.Proofs.YtdlkoffandhclaaGreatDoor
namespace Go.Proofs.YtdlkoffandhclaaGreatDoor
open Go.RowKit
def sclE (n : Int) (e : DEntry) : DEntry := ⟨e.Stack, e.Count * n⟩
def scaleP (p : DProfile) (n : Int) : DProfile × Bool := if profileOk p && (btw n 1 1000000000000 && decide (totalOf p ≤ Int.tdiv 1000000000000 n)) then profR ((entriesOf p).map (sclE n)) else (emptyP, false)
theorem sum_elem {L : Int} {cs : List Int} (h : countsOk L cs = true) {j : Nat} {c : Int} (hc : cs[j]? = some c) (hL : 0 ≤ L) : 0 ≤ c ∧ c ≤ cs.sum := by
  induction cs generalizing L j with
  | nil => simp at hc
  | cons a cs ih =>
    simp only [countsOk, Bool.and_eq_true, btw_iff] at h
    have h0 := countsOk_take h.2 (by omega) cs.length
    rw [List.take_length] at h0
    cases j with
    | zero =>
      simp only [List.getElem?_cons_zero, Option.some.injEq] at hc
      subst hc
      simp only [List.sum_cons]
      omega
    | succ j =>
      simp only [List.getElem?_cons_succ] at hc
      have := ih h.2 hc (by omega)
      simp only [List.sum_cons]
      omega
theorem entTake_mem2 {p : DProfile} {n : Nat} {e : DEntry} (h : e ∈ entTake p n) : ∃ k : Nat, p.Counts[k]? = some e.Count := by
  unfold entTake at h
  obtain ⟨k, _, hk⟩ := List.mem_filterMap.1 h
  unfold entAt at hk
  split at hk
  · rename_i c hc
    split at hk
    · cases hk
    · simp only [Option.some.injEq] at hk
      subst hk
      exact ⟨k, hc⟩
  · cases hk
theorem ents_count {p : DProfile} {e : DEntry} (hp : profileOk p = true) (h : e ∈ entriesOf p) : 0 ≤ e.Count ∧ e.Count ≤ totalOf p := by
  unfold entriesOf at h
  rw [if_pos hp] at h
  have h1 := (foldl_insE_perm (entTake p p.Counts.length) []).mem_iff.1 h
  obtain ⟨k, hk⟩ := entTake_mem2 (by simpa using h1)
  have h2 := hp
  simp only [profileOk, Bool.and_eq_true] at h2
  have := sum_elem h2.2.2 hk (by omega)
  unfold totalOf
  rw [if_pos hp]
  exact this
theorem scale_fit {p : DProfile} {n : Int} {e : DEntry} (hp : profileOk p = true) (hn : btw n 1 1000000000000 = true) (ht : decide (totalOf p ≤ Int.tdiv 1000000000000 n) = true) (h : e ∈ entriesOf p) : 0 ≤ e.Count * n ∧ e.Count * n ≤ 1000000000000 := by
  have h1 := ents_count hp h
  have h2 := btw_iff.1 hn
  have h3 := of_decide_eq_true ht
  rw [Int.tdiv_eq_ediv_of_nonneg (by omega)] at h3
  refine ⟨Int.mul_nonneg h1.1 (by omega), ?_⟩
  have h4 : e.Count ≤ 1000000000000 / n := by omega
  exact (Int.le_ediv_iff_mul_le (by omega)).1 h4
theorem frSum_scl (n : Int) (l : List DEntry) : frSum (l.map (sclE n)) = frSum l := by
  unfold frSum
  rw [List.map_map]
  rfl
theorem scaleP_len {p : DProfile} (n : Int) (h : szProfile p ≤ 1048576) : (scaleP p n).1.Stacks.Nodes.length ≤ 122500000000 ∧ (scaleP p n).1.Counts.length ≤ 122500000000 := by
  have h1 := frSum_small h
  unfold scaleP
  split
  · have := profR_len ((entriesOf p).map (sclE n))
    rw [frSum_scl] at this
    omega
  · exact ⟨Nat.zero_le _, Nat.zero_le _⟩
theorem scl_sz {p : DProfile} {n : Int} {j : Nat} {e : DEntry} (h : ((entriesOf p).map (sclE n))[j]? = some e) : e.Stack.size ≤ 12 * p.Stacks.Nodes.length := by
  rw [List.getElem?_map] at h
  cases hx : (entriesOf p)[j]? with
  | none => rw [hx] at h; cases h
  | some x =>
    rw [hx] at h
    simp only [Option.map_some, Option.some.injEq] at h
    subst h
    have := ents_sz hx
    exact this
def partS (n : Int) (l : List DEntry) (j : Nat) : List DEntry := (l.take j).map (sclE n) ++ l.drop j
theorem partS_zero (n : Int) (l : List DEntry) : partS n l 0 = l := by simp [partS]
theorem partS_all (n : Int) (l : List DEntry) : partS n l l.length = l.map (sclE n) := by simp [partS]
theorem partS_len (n : Int) (l : List DEntry) (j : Nat) : (partS n l j).length = l.length := by
  simp only [partS, List.length_append, List.length_map, List.length_take, List.length_drop]
  omega
theorem partS_get {n : Int} {l : List DEntry} {j : Nat} {e : DEntry} (h : l[j]? = some e) : (partS n l j)[j]? = some e := by
  have hj : j < l.length := (List.getElem?_eq_some_iff.1 h).1
  have hl : ((l.take j).map (sclE n)).length = j := by simp; omega
  unfold partS
  rw [List.getElem?_append_right (by omega), hl, Nat.sub_self, List.getElem?_drop, Nat.add_zero]
  exact h
theorem partS_set {n : Int} {l : List DEntry} {j : Nat} {e : DEntry} (h : l[j]? = some e) : (partS n l j).set j (sclE n e) = partS n l (j + 1) := by
  have hj : j < l.length := (List.getElem?_eq_some_iff.1 h).1
  have hl : ((l.take j).map (sclE n)).length = j := by simp; omega
  unfold partS
  rw [List.set_append_right _ _ (by omega), hl, Nat.sub_self, drop_at h, List.set_cons_zero, List.take_add_one, h]
  simp
theorem setCell_self {W : World} {a : Addr} {v : Value} (h : W.cell? a = some v) : W.setCell a v = W := by
  unfold World.cell? at h
  unfold World.setCell
  split at h
  · rename_i c e f hc
    split at h
    · cases h
    · rename_i hs
      have : W.heap.modify a.block (fun
        | .cells c elem frozen => .cells (if a.spot.isSome then c else c.setIfInBounds a.off v) elem frozen
        | o => o) = W.heap := by
        apply Array.ext_getElem?
        intro i
        rw [Array.getElem?_modify]
        split
        · rename_i hi
          subst hi
          rw [hc]
          simp only [Option.map_some, hs, if_neg, Bool.false_eq_true, not_false_eq_true]
          congr 2
          apply Array.ext_getElem?
          intro k
          rw [Array.getElem?_setIfInBounds]
          split
          · rename_i hk
            subst hk
            split
            · exact h.symm
            · rename_i hk2
              rw [Array.getElem?_eq_none (by omega)]
          · rfl
        · rfl
      exact congrArg (fun h => ({ W with heap := h } : World)) this
  · cases h
theorem set_ent {e : TypeId} {X W : World} {A : Option Addr} {n c : Nat} {l : List DEntry} {k : Nat} {x : DEntry} {y : Int} (h : Fresh (tEntry.sl e) X W [.slice A n c] l) (hg : Gro X W) (hx : l[k]? = some x) (hy : I64 y) :
    ∃ g, A = some ⟨g, 0, none⟩ ∧ g < W.heap.size ∧ W.frozen? ⟨g, k * 2 + 1, none⟩ = false ∧ W.cell? ⟨g, k * 2, none⟩ = some (.string x.Stack) ∧ W.cell? ⟨g, k * 2 + 1, none⟩ = some (.int .i64 x.Count) ∧
      Gro X (W.setCell ⟨g, k * 2 + 1, none⟩ (.int .i64 y)) ∧ Fresh (tEntry.sl e) X (W.setCell ⟨g, k * 2 + 1, none⟩ (.int .i64 y)) [.slice A n c] (l.set k ⟨x.Stack, y⟩) := by
  obtain ⟨S, hO, hN, hS⟩ := h
  obtain ⟨g, ec, Sc, rfl, hgS, hgl, hgc, hSc, hO1, hfz, hcell, hset⟩ := own_put hO hN hx
  obtain ⟨rfl, rfl, b1, b2⟩ := tEntry_O hO1
  have hc0 := hcell 0 _ rfl
  have hc1 := hcell 1 _ rfl
  have hs2 : tEntry.size = 2 := rfl
  simp only [hs2, Nat.add_zero] at hc0 hc1
  have h1 := hset [.string x.Stack, .int .i64 y] ⟨x.Stack, y⟩ (tEntry_mkO (x := ⟨x.Stack, y⟩) b1 hy)
  simp only [hs2, setRow, Nat.add_zero, Nat.zero_add, setCell_self hc0] at h1
  refine ⟨g, rfl, hgl, hfz _, hc0, hc1, hg.setRow (p := ⟨g, k * 2 + 1, none⟩) (hS g hgS) _, S, h1.1, hN, hS⟩
end Go.Proofs.YtdlkoffandhclaaGreatDoor
namespace Go.Proofs.YtdlkoffandhclaaGreatDoor
open Go.RowKit
theorem returns_and_shaped {H : Type} {enc : TypeId × Value → H} {a : Assume} {C : Checked} {os : Os} {f : FuncId} {fn : Func} {s : ChangeSpec} {conds : List PathCond} {apart fresh handsOn again : Bool} {X : World → Array Value → Prop}
    (hX : ∀ (w w' : World) (args : Array Value), w.heap = w'.heap → X w args → X w' args)
    (own : ownKnob C.prog.godebug = none) (started : os.Started) (noInit : C.prog.inits.idxOf? f = none) (hfn : C.prog.funcs[f]? = some fn)
    (witness : ∃ (w : World) (tape : Tape) (i : Input), w.os = os ∧ (w.forCall tape i).Shaped C.prog ∧ i.vars = [] ∧ Input.okWide C.prog (w.forCall tape i) .any w.heap.size f i ∧
      ((s.pre enc C.prog fn conds apart (w.forCall tape i).memory i.args ∧ X (w.forCall tape i).memory i.args) ∧ sizedMet enc C.prog fn (OpenSpec.ofChange s) apart (w.forCall tape i).memory i.args) ∧ a.holds C.prog (lone (Frame.enter C.prog f i.args .normal) [] (w.forCall tape i)))
    (contract : ∀ (W : World) (base : Nat) (args : Array Value) (ds gs : List (DataW H)) (before : List MemPlace),
      (∀ (j : Nat) t v, fn.params[j]? = some t → args[j]? = some v → Value.okWide C.prog W .any base t v) →
      DataW.Whole enc C.prog fn.params.toList s.vars apart W args.toList ds gs before →
      conds.all (PathCond.test C.prog ⟨fn.params.toList, ds, s.plain.varTypes C.prog, gs⟩) = true →
      (DataW.weightsEach C.prog (fn.params.toList ++ s.plain.varTypes C.prog) (ds ++ gs)).all (· ≤ reachBytes) = true → X W args → W.ShapedOpen C.prog →
      a.holds C.prog (lone (Frame.enter C.prog f args .normal) [] W) →
      Calls C.prog f args W fun e W' => ∃ v, e = .returned v ∧ s.post enc C.prog fn apart fresh handsOn again W args v W') :
    ReturnsInHanded a C os f .any (fun w args => (s.pre enc C.prog fn conds apart w args ∧ X w args) ∧ sizedMet enc C.prog fn (OpenSpec.ofChange s) apart w args) (s.post enc C.prog fn apart fresh handsOn again) := by
  refine returnsInHanded_of_calls own started noInit witness ?_
  intro w tape i _ hsh _ hok hpre hholds
  obtain ⟨_, _, _, fn', hfn', _, _, _, _, hval⟩ := hok
  have e : fn' = fn := Option.some.inj (hfn'.symm.trans hfn)
  subst e
  obtain ⟨⟨⟨ds, gs, before, hw, hc⟩, hx⟩, hz⟩ := hpre
  have hw' := DataW.Whole.of_heap (w' := w.forCall tape i) (by rfl) hw
  refine (contract (w.forCall tape i) w.heap.size i.args ds gs before hval hw' hc (hz.weights hw) (hX _ _ _ (by rfl) hx) hsh hholds).mono fun e W' ⟨v, he, hp⟩ => ?_
  subst he
  exact ChangeSpec.post_blind hp
theorem max_len {W : World} (h : W.ShapedOpen Tryz.prog) : ∃ m, W.cell? ⟨0, 0, none⟩ = some (.int .i64 m) := Tryz.laysM146.s1_3 W h
end Go.Proofs.YtdlkoffandhclaaGreatDoor
namespace Go.Proofs.YtdlkoffandhclaaGreatDoor
open Go.RowKit
theorem cntE_at : ∀ {l : List DEntry} {e : DEntry}, l.Pairwise ltE → e ∈ l → cntE l e.Stack = e.Count
  | [], e, _, h => by cases h
  | a :: l, e, hs, h => by
    rw [List.pairwise_cons] at hs
    rcases List.mem_cons.1 h with rfl | h
    · exact cnt_head _ _
    · rw [cnt_tail (lt_ne (hs.1 e h)), cntE_at hs.2 h]
theorem cntE_some : ∀ {l : List DEntry} {s : ByteArray}, cntE l s ≠ 0 → ∃ e ∈ l, e.Stack = s := by
  intro l s h
  apply Decidable.byContradiction
  intro hn
  exact h (cntE_no fun e he hs => hn ⟨e, he, hs⟩)
/-- of entries that ascend and are not zero -/
theorem mem_cnt {l : List DEntry} (hs : l.Pairwise ltE) (hz : ∀ e ∈ l, e.Count ≠ 0) (e : DEntry) : e ∈ l ↔ e.Count = cntE l e.Stack ∧ e.Count ≠ 0 := by
  constructor
  · intro h
    exact ⟨(cntE_at hs h).symm, hz e h⟩
  · rintro ⟨h1, h2⟩
    obtain ⟨x, hx, hxs⟩ := cntE_some (l := l) (s := e.Stack) (by rw [← h1]; exact h2)
    have := cntE_at hs hx
    rw [hxs, ← h1] at this
    cases x; cases e
    simp only at hxs this
    rw [← hxs, this]
    exact hx
def newC (ds : List DDelta) (e : DEntry) : Int := match ds.find? (fun d => decide (d.Stack = e.Stack)) with
  | some d => d.After
  | none => e.Count
def keepE (ds : List DDelta) (x : List DEntry) : List DEntry := x.filterMap fun e => if newC ds e = 0 then none else some ⟨e.Stack, newC ds e⟩
def addE (ds : List DDelta) : List DEntry := ds.filterMap fun d => if d.Before = 0 ∧ 0 < d.After then some ⟨d.Stack, d.After⟩ else none
def diffFits (p : DProfile) (ds : List DDelta) : Bool := ds.all fun d => decide (d.Before = cntE (entriesOf p) d.Stack)
def applyP (p : DProfile) (ds : List DDelta) : DProfile × Bool :=
  if profileOk p && diffFits p ds then profR (keepE ds (entriesOf p) ++ addE ds) else (emptyP, false)
theorem ents_nz {p : DProfile} : ∀ e ∈ entriesOf p, e.Count ≠ 0 := by
  intro e he
  by_cases hp : profileOk p = true
  · obtain ⟨k, hk, h1, h2, h3⟩ := (ents_iff hp e).1 he
    exact h3
  · unfold entriesOf at he
    rw [if_neg hp] at he
    cases he
theorem ents_pos {p : DProfile} : ∀ e ∈ entriesOf p, 0 < e.Count := fun e he => by
  obtain ⟨_, _, _, _, h⟩ := ents_entOk he
  have := ents_nz e he
  omega
theorem newC_eq {x y : List DEntry} (hx : x.Pairwise ltE) (hy : y.Pairwise ltE) {e : DEntry} (he : e ∈ x) : newC (mergeD x y) e = cntE y e.Stack := by
  unfold newC
  cases hf : (mergeD x y).find? (fun d => decide (d.Stack = e.Stack)) with
  | some d =>
    have h1 := List.mem_of_find?_eq_some hf
    have h2 : d.Stack = e.Stack := by simpa using List.find?_some hf
    have h3 := ((merge_ok x y hx hy d).1 h1).2.1
    simp only
    rw [h3, ← h2]
    rfl
  | none =>
    have h1 := List.find?_eq_none.1 hf
    simp only
    apply Decidable.byContradiction
    intro hne
    have h2 : okD x y (dl x y e.Stack) := ⟨by
      show cntE x e.Stack ≠ cntE y e.Stack
      rw [cntE_at hx he]
      exact hne, rfl, .inl ⟨e, he, rfl⟩⟩
    have h3 := h1 _ ((merge_ok x y hx hy _).2 h2)
    simp [dl] at h3
theorem mem_keep {x y : List DEntry} (hx : x.Pairwise ltE) (hy : y.Pairwise ltE) (hz : ∀ e ∈ y, e.Count ≠ 0) (e : DEntry) : e ∈ keepE (mergeD x y) x ↔ e ∈ y ∧ ∃ a ∈ x, a.Stack = e.Stack := by
  unfold keepE
  rw [List.mem_filterMap, mem_cnt hy hz]
  constructor
  · rintro ⟨a, ha, h⟩
    rw [newC_eq hx hy ha] at h
    split at h
    · cases h
    · rename_i h0
      simp only [Option.some.injEq] at h
      subst h
      exact ⟨⟨rfl, h0⟩, a, ha, rfl⟩
  · rintro ⟨⟨h1, h2⟩, a, ha, hs⟩
    refine ⟨a, ha, ?_⟩
    rw [newC_eq hx hy ha, hs, if_neg (by rw [← h1]; exact h2), ← h1]
theorem mem_add {x y : List DEntry} (hx : x.Pairwise ltE) (hy : y.Pairwise ltE) (hzx : ∀ e ∈ x, e.Count ≠ 0) (hzy : ∀ e ∈ y, 0 < e.Count) (e : DEntry) : e ∈ addE (mergeD x y) ↔ e ∈ y ∧ ¬ ∃ a ∈ x, a.Stack = e.Stack := by
  unfold addE
  rw [List.mem_filterMap]
  constructor
  · rintro ⟨d, hd, h⟩
    obtain ⟨h1, h2, h3⟩ := (merge_ok x y hx hy d).1 hd
    split at h
    · rename_i hc
      simp only [Option.some.injEq] at h
      subst h
      have hb : d.Before = cntE x d.Stack := by rw [h2]; rfl
      have ha : d.After = cntE y d.Stack := by rw [h2]; rfl
      refine ⟨(mem_cnt hy (fun e he => by have := hzy e he; omega) _).2 ⟨ha, by simp only; omega⟩, ?_⟩
      rintro ⟨a, hax, has⟩
      have := cntE_at hx hax
      rw [has] at this
      simp only at this
      have h4 := hzx a hax
      omega
    · cases h
  · rintro ⟨he, hn⟩
    have hc := cntE_at hy he
    have hp := hzy e he
    have h0 : cntE x e.Stack = 0 := cntE_no fun a ha hs => hn ⟨a, ha, hs⟩
    refine ⟨dl x y e.Stack, (merge_ok x y hx hy _).2 ⟨?_, rfl, .inr ⟨e, he, rfl⟩⟩, ?_⟩
    · show cntE x e.Stack ≠ cntE y e.Stack
      omega
    · rw [if_pos (show (dl x y e.Stack).Before = 0 ∧ 0 < (dl x y e.Stack).After from ⟨h0, by rw [show (dl x y e.Stack).After = e.Count from hc]; exact hp⟩)]
      show some (⟨e.Stack, cntE y e.Stack⟩ : DEntry) = some e
      rw [hc]
theorem nodup_ltE {l : List DEntry} (h : l.Pairwise ltE) : (l.map fun e => bl e.Stack).Nodup := by
  unfold List.Nodup
  rw [List.pairwise_map]
  exact h.imp fun {a b} hab he => by unfold ltE at hab; rw [he] at hab; exact bl_irrefl _ hab
theorem apply_diff {p q : DProfile} (hp : profileOk p = true) (hq : profileOk q = true) :
    (applyP p (diffsOf p q)).2 = true ∧ profileOk (applyP p (diffsOf p q)).1 = true ∧ entriesOf (applyP p (diffsOf p q)).1 = entriesOf q := by
  have hx := entriesOf_lt p
  have hy := entriesOf_lt q
  have hd : diffsOf p q = mergeD (entriesOf p) (entriesOf q) := by unfold diffsOf; rw [hp, hq]; rfl
  have hf : diffFits p (diffsOf p q) = true := by
    unfold diffFits
    rw [List.all_eq_true]
    intro d hdm
    rw [hd] at hdm
    obtain ⟨_, h2, _⟩ := (merge_ok _ _ hx hy d).1 hdm
    simp only [decide_eq_true_eq]
    rw [h2]
    rfl
  have hP : (keepE (diffsOf p q) (entriesOf p) ++ addE (diffsOf p q)).Perm (entriesOf q) := by
    rw [hd]
    have hk := mem_keep hx hy (fun e he => ents_nz e he)
    have ha := mem_add hx hy (fun e he => ents_nz e he) (fun e he => ents_pos e he)
    refine perm_of_mem (nodup_of_map (f := fun e => bl e.Stack) ?_) (nodup_of_map (nodup_ltE hy)) fun e => ?_
    · rw [List.map_append, List.nodup_append]
      refine ⟨?_, ?_, ?_⟩
      · have h1 := nodup_ltE hx
        have h2 : ((keepE (mergeD (entriesOf p) (entriesOf q)) (entriesOf p)).map fun e => bl e.Stack).Sublist ((entriesOf p).map fun e => bl e.Stack) := by
          generalize entriesOf p = l
          generalize mergeD l (entriesOf q) = ds
          unfold keepE
          induction l with
          | nil => simp
          | cons a l ih =>
            rw [List.filterMap_cons]
            split
            · rename_i h
              exact (List.Sublist.cons _ ih)
            · rename_i b h
              split at h
              · cases h
              · simp only [Option.some.injEq] at h
                subst h
                simp only [List.map_cons]
                exact ih.cons_cons _
        exact h1.sublist h2
      · have h1 := merge_sorted _ _ hx hy
        have h2 : ((addE (mergeD (entriesOf p) (entriesOf q))).map fun e => bl e.Stack).Sublist ((mergeD (entriesOf p) (entriesOf q)).map fun e => bl e.Stack) := by
          generalize mergeD (entriesOf p) (entriesOf q) = ds
          unfold addE
          induction ds with
          | nil => simp
          | cons a l ih =>
            rw [List.filterMap_cons]
            split
            · rename_i h
              exact (List.Sublist.cons _ ih)
            · rename_i b h
              split at h
              · simp only [Option.some.injEq] at h
                subst h
                simp only [List.map_cons]
                exact ih.cons_cons _
              · cases h
        refine List.Pairwise.sublist h2 ?_
        rw [List.pairwise_map]
        exact h1.imp fun {a b} hab he => by unfold ltD at hab; rw [he] at hab; exact bl_irrefl _ hab
      · intro a ha' b hb' hab
        obtain ⟨e1, he1, rfl⟩ := List.mem_map.1 ha'
        obtain ⟨e2, he2, rfl⟩ := List.mem_map.1 hb'
        have h1 := (hk e1).1 he1
        have h2 := (ha e2).1 he2
        have h3 := bl_inj hab
        obtain ⟨a, hax, has⟩ := h1.2
        exact h2.2 ⟨a, hax, by rw [has, h3]⟩
    · rw [List.mem_append, hk, ha]
      constructor
      · rintro (h | h)
        · exact h.1
        · exact h.1
      · intro h
        by_cases hc : ∃ a ∈ entriesOf p, a.Stack = e.Stack
        · exact .inl ⟨h, hc⟩
        · exact .inr ⟨h, hc⟩
  have hb := total_bd hq
  have hA : applyP p (diffsOf p q) = profR (keepE (diffsOf p q) (entriesOf p) ++ addE (diffsOf p q)) := by unfold applyP; rw [hp, hf]; rfl
  rw [hA]
  have hs : ∀ f : DEntry → Int, ((keepE (diffsOf p q) (entriesOf p) ++ addE (diffsOf p q)).map f).sum = ((entriesOf q).map f).sum := fun f => sum_perm (hP.map f)
  obtain ⟨h1, h2, h3, h4⟩ := profR_yes2 (l := keepE (diffsOf p q) (entriesOf p) ++ addE (diffsOf p q)) (fun e he => ents_entOk (hP.mem_iff.1 he)) (by
    unfold sumE
    rw [hs]
    have := sumE_ents hq
    unfold sumE at this
    omega)
  refine ⟨h1, h2, ents_ext h2 hq (count_ext fun m hm hma => ?_)⟩
  rw [h4 m hm hma]
  unfold cntT
  rw [hs]
  exact cntT_ents hq hm hma
theorem apply_wrong {p q : DProfile} (hp : profileOk p = true) (hq : profileOk q = true) : (applyP q (diffsOf p q)).2 = decide (diffsOf p q = []) := by
  have hx := entriesOf_lt p
  have hy := entriesOf_lt q
  have hd : diffsOf p q = mergeD (entriesOf p) (entriesOf q) := by unfold diffsOf; rw [hp, hq]; rfl
  cases hc : diffsOf p q with
  | nil =>
    have h1 := (back_ents hq).1
    have hk : keepE [] (entriesOf q) = entriesOf q := by
      have hz := ents_nz (p := q)
      have hn : ∀ e : DEntry, newC [] e = e.Count := fun _ => rfl
      unfold keepE
      generalize entriesOf q = l at hz
      induction l with
      | nil => rfl
      | cons a l ih =>
        rw [List.filterMap_cons_some (b := a) (by rw [hn, if_neg (hz a List.mem_cons_self)]), ih fun e he => hz e (List.mem_cons_of_mem _ he)]
    have hA : applyP q [] = profR (entriesOf q) := by
      unfold applyP
      rw [hq, show diffFits q [] = true from rfl, hk]
      simp [addE]
    rw [hA, h1]
    rfl
  | cons d ds =>
    have hm : d ∈ mergeD (entriesOf p) (entriesOf q) := by rw [← hd, hc]; exact List.mem_cons_self
    obtain ⟨h1, h2, h3⟩ := (merge_ok _ _ hx hy d).1 hm
    have hb : d.Before = cntE (entriesOf p) d.Stack := by rw [h2]; rfl
    have ha : d.After = cntE (entriesOf q) d.Stack := by rw [h2]; rfl
    have hf : diffFits q (d :: ds) = false := by
      unfold diffFits
      rw [List.all_cons, decide_eq_false (by rw [← ha]; exact h1)]
      rfl
    have hA : applyP q (d :: ds) = (emptyP, false) := by unfold applyP; rw [hq, hf]; rfl
    rw [hA]
    simp
theorem diff_self {p : DProfile} (hp : profileOk p = true) : diffsOf p p = [] := by
  have hx := entriesOf_lt p
  have hd : diffsOf p p = mergeD (entriesOf p) (entriesOf p) := by unfold diffsOf; rw [hp]; rfl
  cases hc : diffsOf p p with
  | nil => rfl
  | cons d ds =>
    have hm : d ∈ mergeD (entriesOf p) (entriesOf p) := by rw [← hd, hc]; exact List.mem_cons_self
    obtain ⟨h1, h2, h3⟩ := (merge_ok _ _ hx hx d).1 hm
    exfalso
    apply h1
    rw [h2]
    rfl
end Go.Proofs.YtdlkoffandhclaaGreatDoor
namespace Go.Proofs.YtdlkoffandhclaaGreatDoor
open Go.RowKit
@[go_sem] theorem binOp_string_leq (t : TypeId) (a b : ByteArray) : binOp .leq t (.string a) (.string b) = pure (.bool (Op.bytesLess a.toList b.toList || (a.toList == b.toList))) := by simp [binOp, Op.stringOp]
end Go.Proofs.YtdlkoffandhclaaGreatDoor
namespace Go.Proofs.YtdlkoffandhclaaGreatDoor.fnEntries
open Go.ChangeShapes Go.WideShapes Go.ChangeAt Go.RowKit
open Go.ChangeMaps (open_string shut_string)
theorem own : ownKnob Tryz.prog.godebug = none := by kernel_rfl
theorem laidOut : laidOutB Tryz.prog = true := by kernel_rfl
set_option maxRecDepth 100000 in
set_option maxHeartbeats 8000000 in
theorem walk (w : World) (v : Value) (xs : List UInt8) (hx : (byteT.sl 5).R w w.heap.size [v] xs) {m : Int} (hm : w.cell? ⟨0, 0, none⟩ = some (.int .i64 m)) :
    Calls Tryz.prog 4 #[v] w fun e w' => e = .returned (.bool true) ∧ Gro w w' := by
  have HM := Lib.hid hm
  clear hm
  obtain ⟨A, c, rfl, hxl, hcm⟩ := sl_at hx
  by_cases hb : xs.length ≤ 1048576
  case neg =>
    have hb2 := Lib.hid (show decide (1048576 < (xs.length : Int)) = true from decide_eq_true (by omega))
    go_enter Tryz.func4, Tryz.ntmps4
    go_wp2_with (go_at_call 15; refine (big_l _ _ _ _).mono ?_; rw [hb2.out]; rintro e w1 ⟨rfl, os1, d1, rfl⟩)
    go_ret
    exact ⟨rfl, (by repeat (first | with_reducible exact Gro.refl _ | with_reducible exact Gro.refl_drew _ _ _ | with_reducible exact Gro.refl_drewN _ _ _ _ | assumption | with_reducible apply Gro.more | with_reducible apply Gro.alloc | with_reducible apply Gro.drew | with_reducible apply Gro.drewN))⟩
  have hb2 := Lib.hid (show decide (1048576 < (xs.length : Int)) = false from decide_eq_false (by omega))
  go_enter Tryz.func4, Tryz.ntmps4
  go_wp2_with (go_at_call 15; refine (big_l _ _ _ _).mono ?_; rw [hb2.out]; rintro e w1 ⟨rfl, os1, d1, rfl⟩)
  refine (profs_s (Ty.up _ hx (by repeat (first | with_reducible exact Gro.refl _ | with_reducible exact Gro.refl_drew _ _ _ | with_reducible exact Gro.refl_drewN _ _ _ _ | assumption | with_reducible apply Gro.more | with_reducible apply Gro.alloc | with_reducible apply Gro.drew | with_reducible apply Gro.drewN))) (by omega)).mono ?_
  rintro e W2 ⟨p, p9, A0, c0, A1, c1, A8, c8, A9, c9, rfl, hp, hp9, hG2, hRp, hRp9⟩
  have hG2' : Gro w W2 := (Gro.more (Gro.refl w) os1 d1).trans hG2
  obtain ⟨os2, d2, rfl⟩ := hG2'
  clear hG2 hx
  obtain ⟨hpok, hpt, hpn⟩ := hp
  obtain ⟨l, hl⟩ : ∃ l, entriesOf p = l := ⟨_, rfl⟩
  have hpc := pOk_len hpok
  have hll : l.length ≤ 28 := by rw [← hl]; have := entriesOf_len p; omega
  have hfr : frSum l ≤ 784 := by rw [← hl]; exact Nat.le_trans (frSum_ents p) (Nat.mul_le_mul hpn hpn)
  have HSZ := Lib.hid (show ∀ (j : Nat) (e : DEntry), l[j]? = some e → e.Stack.size ≤ 336 from fun j e h => by rw [← hl] at h; have := ents_sz h; omega)
  have hbk := back_ents hpok
  rw [hl] at hbk
  obtain ⟨q, ok, hq⟩ : ∃ q ok, profR l = (q, ok) := ⟨_, _, rfl⟩
  rw [hq] at hbk
  simp only at hbk
  obtain ⟨rfl, hqok, hqe, hqt⟩ := hbk
  have hqn : q.Stacks.Nodes.length ≤ 784 ∧ q.Counts.length ≤ 784 := by have := profR_len l; rw [hq] at this; simp only at this; omega
  have HQ := Lib.hid hq
  have HL := Lib.hid hl
  have HQE := Lib.hid hqe
  have HSP := Lib.hid (show sameP p q = true from by unfold sameP; rw [hpok, hqok, hl, hqe]; simp)
  have HPOS := Lib.hid (show ∀ e ∈ l, 0 < e.Count ∧ e.Count ≤ 280 from fun e he => by
    rw [← hl] at he
    have h1 := ents_pos e he
    have h2 := (ents_count hpok he).2
    omega)
  have HASC := Lib.hid (show ∀ (k : Nat) (x y : DEntry), l[k]? = some x → l[k + 1]? = some y → bl x.Stack < bl y.Stack from fun k x y h1 h2 => ents_strict hpok (by rw [hl]; exact h1) (by rw [hl]; exact h2))
  have HSUM := Lib.hid (show (l.map DEntry.Count).sum = totalOf p from by have := sumE_ents hpok; rw [hl] at this; exact this)
  have hpc2 : p.Counts.length ≤ 28 := by omega
  obtain ⟨T, hT⟩ : ∃ T, totalOf p = T := ⟨_, rfl⟩
  have HT := Lib.hid hT
  have hT0 : 0 ≤ T ∧ T ≤ 280 := by have := total_bd hpok; omega
  have HPOK := Lib.hid hpok
  clear hpc hl hq hqe hqt hT hpok hqok hpt
  go_wp2_with (fail)
  refine (entriesOf_i (p := p) (Ty.up _ (rdProf hRp).1 (by repeat (first | with_reducible exact Gro.refl _ | with_reducible exact Gro.refl_drew _ _ _ | with_reducible exact Gro.refl_drewN _ _ _ _ | assumption | with_reducible apply Gro.more | with_reducible apply Gro.alloc | with_reducible apply Gro.drew | with_reducible apply Gro.drewN))) (Ty.up _ (rdProf hRp).2 (by repeat (first | with_reducible exact Gro.refl _ | with_reducible exact Gro.refl_drew _ _ _ | with_reducible exact Gro.refl_drewN _ _ _ _ | assumption | with_reducible apply Gro.more | with_reducible apply Gro.alloc | with_reducible apply Gro.drew | with_reducible apply Gro.drewN))) (by omega)).mono ?_
  rw [HL.out]
  rintro e W3 ⟨B3, b3, rfl, hF3, os3, d3, rfl⟩
  go_wp2_with (fail)
  refine (profOf_i (l := l) (Ty.up _ hF3.read (by repeat (first | with_reducible exact Gro.refl _ | with_reducible exact Gro.refl_drew _ _ _ | with_reducible exact Gro.refl_drewN _ _ _ _ | assumption | with_reducible apply Gro.more | with_reducible apply Gro.alloc | with_reducible apply Gro.drew | with_reducible apply Gro.drewN))) (fun j e h => by have := HSZ.out j e h; omega) (by omega) (Gro.cell (by repeat (first | with_reducible exact Gro.refl _ | with_reducible exact Gro.refl_drew _ _ _ | with_reducible exact Gro.refl_drewN _ _ _ _ | assumption | with_reducible apply Gro.more | with_reducible apply Gro.alloc | with_reducible apply Gro.drew | with_reducible apply Gro.drewN)) HM.out)).mono ?_
  rw [HQ.out]
  rintro e W4 ⟨A4, c4, A5, c5, rfl, hF4, os4, d4, rfl⟩
  have hRl := hF3.read
  have hRq := hF4.read
  clear hF3 hF4
  go_wp2_with (fail)
  have k0 : ((gro (gro (((gro w os2 d2).alloc (.cells #[.slice A0 p.Stacks.Nodes.length c0, .slice A1 p.Counts.length c1] 33)).alloc (.cells #[.slice A8 p9.Stacks.Nodes.length c8, .slice A9 p9.Counts.length c9] 33)) os3 d3) os4 d4).alloc (.cells #[.slice A4 q.Stacks.Nodes.length c4, .slice A5 q.Counts.length c5] 33)).cell? ⟨w.heap.size + os2.size, 0, none⟩ = some (.slice A0 p.Stacks.Nodes.length c0) := by simp [go_sem]
  have k1 : ((gro (gro (((gro w os2 d2).alloc (.cells #[.slice A0 p.Stacks.Nodes.length c0, .slice A1 p.Counts.length c1] 33)).alloc (.cells #[.slice A8 p9.Stacks.Nodes.length c8, .slice A9 p9.Counts.length c9] 33)) os3 d3) os4 d4).alloc (.cells #[.slice A4 q.Stacks.Nodes.length c4, .slice A5 q.Counts.length c5] 33)).cell? ⟨w.heap.size + os2.size, 1, none⟩ = some (.slice A1 p.Counts.length c1) := by simp [go_sem]
  have k2 : ((gro (gro (((gro w os2 d2).alloc (.cells #[.slice A0 p.Stacks.Nodes.length c0, .slice A1 p.Counts.length c1] 33)).alloc (.cells #[.slice A8 p9.Stacks.Nodes.length c8, .slice A9 p9.Counts.length c9] 33)) os3 d3) os4 d4).alloc (.cells #[.slice A4 q.Stacks.Nodes.length c4, .slice A5 q.Counts.length c5] 33)).cell? ⟨w.heap.size + os2.size + 1 + 1 + os3.size + os4.size, 0, none⟩ = some (.slice A4 q.Stacks.Nodes.length c4) := by simp [go_sem]
  have k3 : ((gro (gro (((gro w os2 d2).alloc (.cells #[.slice A0 p.Stacks.Nodes.length c0, .slice A1 p.Counts.length c1] 33)).alloc (.cells #[.slice A8 p9.Stacks.Nodes.length c8, .slice A9 p9.Counts.length c9] 33)) os3 d3) os4 d4).alloc (.cells #[.slice A4 q.Stacks.Nodes.length c4, .slice A5 q.Counts.length c5] 33)).cell? ⟨w.heap.size + os2.size + 1 + 1 + os3.size + os4.size, 1, none⟩ = some (.slice A5 q.Counts.length c5) := by simp [go_sem]
  have hGY : Gro w ((gro (gro (((gro w os2 d2).alloc (.cells #[.slice A0 p.Stacks.Nodes.length c0, .slice A1 p.Counts.length c1] 33)).alloc (.cells #[.slice A8 p9.Stacks.Nodes.length c8, .slice A9 p9.Counts.length c9] 33)) os3 d3) os4 d4).alloc (.cells #[.slice A4 q.Stacks.Nodes.length c4, .slice A5 q.Counts.length c5] 33)) := (by repeat (first | with_reducible exact Gro.refl _ | with_reducible exact Gro.refl_drew _ _ _ | with_reducible exact Gro.refl_drewN _ _ _ _ | assumption | with_reducible apply Gro.more | with_reducible apply Gro.alloc | with_reducible apply Gro.drew | with_reducible apply Gro.drewN))
  have hMY := Lib.hid (cell_up hGY HM.out)
  have hpY := tProfile.up hRp (show Gro _ ((gro (gro (((gro w os2 d2).alloc (.cells #[.slice A0 p.Stacks.Nodes.length c0, .slice A1 p.Counts.length c1] 33)).alloc (.cells #[.slice A8 p9.Stacks.Nodes.length c8, .slice A9 p9.Counts.length c9] 33)) os3 d3) os4 d4).alloc (.cells #[.slice A4 q.Stacks.Nodes.length c4, .slice A5 q.Counts.length c5] 33)) from (by repeat (first | with_reducible exact Gro.refl _ | with_reducible exact Gro.refl_drew _ _ _ | with_reducible exact Gro.refl_drewN _ _ _ _ | assumption | with_reducible apply Gro.more | with_reducible apply Gro.alloc | with_reducible apply Gro.drew | with_reducible apply Gro.drewN)))
  have hlY := (tEntry.sl 48).up hRl (show Gro _ ((gro (gro (((gro w os2 d2).alloc (.cells #[.slice A0 p.Stacks.Nodes.length c0, .slice A1 p.Counts.length c1] 33)).alloc (.cells #[.slice A8 p9.Stacks.Nodes.length c8, .slice A9 p9.Counts.length c9] 33)) os3 d3) os4 d4).alloc (.cells #[.slice A4 q.Stacks.Nodes.length c4, .slice A5 q.Counts.length c5] 33)) from (by repeat (first | with_reducible exact Gro.refl _ | with_reducible exact Gro.refl_drew _ _ _ | with_reducible exact Gro.refl_drewN _ _ _ _ | assumption | with_reducible apply Gro.more | with_reducible apply Gro.alloc | with_reducible apply Gro.drew | with_reducible apply Gro.drewN)))
  have hqY := tProfile.up hRq (show Gro _ ((gro (gro (((gro w os2 d2).alloc (.cells #[.slice A0 p.Stacks.Nodes.length c0, .slice A1 p.Counts.length c1] 33)).alloc (.cells #[.slice A8 p9.Stacks.Nodes.length c8, .slice A9 p9.Counts.length c9] 33)) os3 d3) os4 d4).alloc (.cells #[.slice A4 q.Stacks.Nodes.length c4, .slice A5 q.Counts.length c5] 33)) from (by repeat (first | with_reducible exact Gro.refl _ | with_reducible exact Gro.refl_drew _ _ _ | with_reducible exact Gro.refl_drewN _ _ _ _ | assumption | with_reducible apply Gro.more | with_reducible apply Gro.alloc | with_reducible apply Gro.drew | with_reducible apply Gro.drewN)))
  have hbz : w.heap.size + os2.size + 1 + 1 + os3.size + os4.size < ((gro (gro (((gro w os2 d2).alloc (.cells #[.slice A0 p.Stacks.Nodes.length c0, .slice A1 p.Counts.length c1] 33)).alloc (.cells #[.slice A8 p9.Stacks.Nodes.length c8, .slice A9 p9.Counts.length c9] 33)) os3 d3) os4 d4).alloc (.cells #[.slice A4 q.Stacks.Nodes.length c4, .slice A5 q.Counts.length c5] 33)).heap.size := by simp
  generalize ((gro (gro (((gro w os2 d2).alloc (.cells #[.slice A0 p.Stacks.Nodes.length c0, .slice A1 p.Counts.length c1] 33)).alloc (.cells #[.slice A8 p9.Stacks.Nodes.length c8, .slice A9 p9.Counts.length c9] 33)) os3 d3) os4 d4).alloc (.cells #[.slice A4 q.Stacks.Nodes.length c4, .slice A5 q.Counts.length c5] 33)) = Y at k0 k1 k2 k3 hGY hMY hpY hlY hqY hbz ⊢
  clear hRp hRl hRq hRp9 HM
  go_loopw [8, 9] (fun a b wr => ∃ (j : Nat) (s : Int), a = .int .i64 s ∧ b = .int .i64 j ∧ j ≤ l.length ∧ 0 ≤ s ∧ s ≤ 280 * j ∧ Hid (s = ((l.take j).map DEntry.Count).sum) ∧ Hid (Gro Y wr)) (fun _ b _ => l.length - (intOf b).toNat)
  case atStart => exact ⟨0, 0, rfl, rfl, Nat.zero_le _, Int.le_refl _, by omega, Lib.hid (by simp), Gro.refl _⟩
  case round =>
    obtain ⟨j, s, rfl, rfl, hj, hs0, hs1, hs, hG⟩ := hrel
    obtain ⟨os, d, rfl⟩ := hG.out
    clear hG
    by_cases hlt : j < l.length
    · obtain ⟨g, off, x, hAe, hgb, hxk, hx0, hx1, bx0, bx1⟩ := atEntry hlY hlt
      subst hAe
      have hc0 := gro_keeps hx0 os d
      have hc1 := gro_keeps hx1 os d
      have hxb := HPOS.out x (List.mem_of_getElem? hxk)
      have HX := Lib.hid hxk
      have HS := Lib.hid (show s + x.Count = ((l.take (j + 1)).map DEntry.Count).sum from by rw [take_snoc hxk, List.map_append, List.sum_append, ← hs.out]; simp)
      have hw1 : IntKind.i64.wrap (s + x.Count) = s + x.Count := IntWalk.i64_in _ ⟨by omega, by omega⟩
      have hn1 : ¬ x.Count < 1 := by omega
      obtain ⟨hxb1, hxb2⟩ := hxb
      clear hxk
      have hjl : (j : Int) < (l.length : Int) := by omega
      by_cases hj0 : j = 0
      · have hj1 : ¬ 0 < j := by omega
        have hj2 : ¬ (0 : Int) < (j : Int) := by omega
        have hj3 : decide (0 < j) = false := decide_eq_false hj1
        have hj4 : decide ((0 : Int) < (j : Int)) = false := decide_eq_false hj2
        have hn2 : decide (x.Count < 1) = false := decide_eq_false hn1
        have HJ := Lib.hid hj0
        clear hj0
        go_wp2_with (fail)
        go_quiet (fail)
        go_wp2_with (fail)
        go_roundw
        case rel => exact ⟨j + 1, s + x.Count, by go_num, by go_num, by omega, by omega, by omega, HS, Lib.hid (by repeat (first | with_reducible exact Gro.refl _ | with_reducible exact Gro.refl_drew _ _ _ | with_reducible exact Gro.refl_drewN _ _ _ _ | assumption | with_reducible apply Gro.more | with_reducible apply Gro.alloc | with_reducible apply Gro.drew | with_reducible apply Gro.drewN))⟩
        case measure => simp [intOf]; omega
      · obtain ⟨i, hji⟩ : ∃ i, j = i + 1 := ⟨j - 1, by omega⟩
        have hj1 : 0 < j := by omega
        have hj2 : (0 : Int) < (j : Int) := by omega
        have hj3 : decide (0 < j) = true := decide_eq_true hj1
        have hj4 : decide ((0 : Int) < (j : Int)) = true := decide_eq_true hj2
        have hn2 : decide (x.Count < 1) = false := decide_eq_false hn1
        have hil : (i : Int) < (l.length : Int) := by omega
        obtain ⟨g', off', y, hAe, hgb', hyk, hy0, hy1, by0, by1⟩ := atEntry hlY (k := i) (by omega)
        injection hAe with hAe
        injection hAe with e1 e2
        subst e1 e2
        have hd0 := gro_keeps hy0 os d
        have hasc := HASC.out i y x hyk (by rw [← hji]; exact HX.out)
        have hbl : Op.bytesLess x.Stack.toList y.Stack.toList = false := by rw [bytesLess_dec, toList_dat, toList_dat]; exact decide_eq_false (fun h => bl_irrefl _ (bl_trans h hasc))
        have hbe : (x.Stack.toList == y.Stack.toList) = false := by rw [str_eqb]; exact decide_eq_false (fun h => by rw [h] at hasc; exact bl_irrefl _ hasc)
        have hw2 : IntKind.i64.wrap ((j : Int) - 1) = (i : Int) := (IntWalk.i64_in _ ⟨by omega, by omega⟩).trans (by omega)
        have hbo : (Op.bytesLess x.Stack.toList y.Stack.toList || (x.Stack.toList == y.Stack.toList)) = false := by rw [hbl, hbe]; rfl
        have HJI := Lib.hid hji
        clear hyk hasc hji hj0
        go_wp2_with (fail)
        go_quiet (fail)
        go_wp2_with (fail)
        go_roundw
        case rel => exact ⟨j + 1, s + x.Count, by go_num, by go_num, by omega, by omega, by omega, HS, Lib.hid (by repeat (first | with_reducible exact Gro.refl _ | with_reducible exact Gro.refl_drew _ _ _ | with_reducible exact Gro.refl_drewN _ _ _ _ | assumption | with_reducible apply Gro.more | with_reducible apply Gro.alloc | with_reducible apply Gro.drew | with_reducible apply Gro.drewN))⟩
        case measure => simp [intOf]; omega
    · obtain rfl : j = l.length := by omega
      have hse : s = T := by have := hs.out; rw [List.take_length, HSUM.out, HT.out] at this; exact this
      subst hse
      have k0' := gro_keeps k0 os d
      have k1' := gro_keeps k1 os d
      have k2' := gro_keeps k2 os d
      have k3' := gro_keeps k3 os d
      have hbz0 : w.heap.size + os2.size < Y.heap.size := by omega
      go_wp2_with (first
        | (go_at_call 19; (with_reducible refine (samep_i (p := p) (q := q) (Ty.up _ (rdProf hpY).1 (by repeat (first | with_reducible exact Gro.refl _ | with_reducible exact Gro.refl_drew _ _ _ | with_reducible exact Gro.refl_drewN _ _ _ _ | assumption | with_reducible apply Gro.more | with_reducible apply Gro.alloc | with_reducible apply Gro.drew | with_reducible apply Gro.drewN))) (Ty.up _ (rdProf hpY).2 (by repeat (first | with_reducible exact Gro.refl _ | with_reducible exact Gro.refl_drew _ _ _ | with_reducible exact Gro.refl_drewN _ _ _ _ | assumption | with_reducible apply Gro.more | with_reducible apply Gro.alloc | with_reducible apply Gro.drew | with_reducible apply Gro.drewN))) (by omega) (Ty.up _ (rdProf hqY).1 (by repeat (first | with_reducible exact Gro.refl _ | with_reducible exact Gro.refl_drew _ _ _ | with_reducible exact Gro.refl_drewN _ _ _ _ | assumption | with_reducible apply Gro.more | with_reducible apply Gro.alloc | with_reducible apply Gro.drew | with_reducible apply Gro.drewN))) (Ty.up _ (rdProf hqY).2 (by repeat (first | with_reducible exact Gro.refl _ | with_reducible exact Gro.refl_drew _ _ _ | with_reducible exact Gro.refl_drewN _ _ _ _ | assumption | with_reducible apply Gro.more | with_reducible apply Gro.alloc | with_reducible apply Gro.drew | with_reducible apply Gro.drewN))) (by omega)).mono ?_); rw [HSP.out]; rintro e w5 ⟨rfl, os5, d5, rfl⟩)
        | (go_at_call 20; (with_reducible refine (totalOf_i (p := p) (Ty.up _ (rdProf hpY).1 (by repeat (first | with_reducible exact Gro.refl _ | with_reducible exact Gro.refl_drew _ _ _ | with_reducible exact Gro.refl_drewN _ _ _ _ | assumption | with_reducible apply Gro.more | with_reducible apply Gro.alloc | with_reducible apply Gro.drew | with_reducible apply Gro.drewN))) (Ty.up _ (rdProf hpY).2 (by repeat (first | with_reducible exact Gro.refl _ | with_reducible exact Gro.refl_drew _ _ _ | with_reducible exact Gro.refl_drewN _ _ _ _ | assumption | with_reducible apply Gro.more | with_reducible apply Gro.alloc | with_reducible apply Gro.drew | with_reducible apply Gro.drewN)))).mono ?_); rw [HT.out]; rintro e w6 ⟨rfl, os6, d6, rfl⟩)
        | (go_at_call 17; (with_reducible refine (entriesOf_i (p := q) (Ty.up _ (rdProf hqY).1 (by repeat (first | with_reducible exact Gro.refl _ | with_reducible exact Gro.refl_drew _ _ _ | with_reducible exact Gro.refl_drewN _ _ _ _ | assumption | with_reducible apply Gro.more | with_reducible apply Gro.alloc | with_reducible apply Gro.drew | with_reducible apply Gro.drewN))) (Ty.up _ (rdProf hqY).2 (by repeat (first | with_reducible exact Gro.refl _ | with_reducible exact Gro.refl_drew _ _ _ | with_reducible exact Gro.refl_drewN _ _ _ _ | assumption | with_reducible apply Gro.more | with_reducible apply Gro.alloc | with_reducible apply Gro.drew | with_reducible apply Gro.drewN))) (by omega)).mono ?_); rw [HQE.out]; rintro e w7 ⟨B7, b7, rfl, hF7, os7, d7, rfl⟩)
        | (go_at_call 21; refine (sameEntries_l (xs := l) (ys := l) (Ty.up _ hF7.read (by repeat (first | with_reducible exact Gro.refl _ | with_reducible exact Gro.refl_drew _ _ _ | with_reducible exact Gro.refl_drewN _ _ _ _ | assumption | with_reducible apply Gro.more | with_reducible apply Gro.alloc | with_reducible apply Gro.drew | with_reducible apply Gro.drewN))) (Ty.up _ hlY (by repeat (first | with_reducible exact Gro.refl _ | with_reducible exact Gro.refl_drew _ _ _ | with_reducible exact Gro.refl_drewN _ _ _ _ | assumption | with_reducible apply Gro.more | with_reducible apply Gro.alloc | with_reducible apply Gro.drew | with_reducible apply Gro.drewN)))).mono ?_; rw [show decide (l = l) = true from decide_eq_true rfl]; rintro e w8 ⟨rfl, os8, d8, rfl⟩))
      go_ret
      exact ⟨rfl, (by repeat (first | with_reducible exact Gro.refl _ | with_reducible exact Gro.refl_drew _ _ _ | with_reducible exact Gro.refl_drewN _ _ _ _ | assumption | with_reducible apply Gro.more | with_reducible apply Gro.alloc | with_reducible apply Gro.drew | with_reducible apply Gro.drewN))⟩

set_option maxRecDepth 100000 in
theorem lifted (os : Os) (started : os.Started) (H : Type) (enc : TypeId × Value → H) :
    ReturnsInHanded {} Tryz.checked os 4 .any (fun w args => (Rows.fnEntriesSpec.pre enc Tryz.prog Tryz.f4 Rows.fnEntriesRow.domain false w args ∧ laidMetH Tryz.prog Rows.fnEntriesRow.laid w) ∧ sizedMet enc Tryz.prog Tryz.f4 (OpenSpec.ofChange Rows.fnEntriesSpec) false w args) (Rows.fnEntriesSpec.post enc Tryz.prog Tryz.f4 false true false false) := by
  refine returns_and_shaped (C := Tryz.checked) (X := fun w _ => laidMetH Tryz.prog Rows.fnEntriesRow.laid w) (fun _ _ _ hh h => h.of_heap hh) own started (by kernel_rfl) Tryz.func4
    (ChangeSpec.witness_shaped (enc := enc) (C := Tryz.checked) (os := os) (X := fun w _ => laidMetH Tryz.prog Rows.fnEntriesRow.laid w) false (World.laidAll Tryz.prog os Rows.fnEntriesRow.laid) #[.slice none 0 0] 8 (World.laidAll_os _ _ _) (World.shaped_of_ZipB (by kernel_rfl) (by kernel_rfl)) (by kernel_rfl) (by kernel_rfl) (by kernel_rfl) (by rw [MakeChecks.laidMetH_plain _ _ _ (by kernel_rfl)]; exact laidMet_laidAll _ (by kernel_rfl) (by kernel_rfl))) ?_
  intro W base args ds gs before hval0 hW _ _ hL hSH _
  obtain ⟨mlen, hmlen⟩ := max_len hSH
  have hval : ∀ (j : Nat) t v, Tryz.f4.params[j]? = some t → args[j]? = some v → Value.okWide Tryz.prog W .any base t v := hval0
  have hW' := hW
  obtain ⟨p, q, hA0, hV, rfl, hfz, hnd⟩ := hW
  have hA : DataW.TrodAll enc Tryz.prog W 0 (fun _ => true) true Tryz.f4.params.toList args.toList ds p := hA0
  rw [Tryz.params4] at hA hval
  obtain ⟨v0, vs0, d0, ds0, p0, q0, hargs, rfl, rfl, h0, r0⟩ := trodAll_cons hA
  obtain ⟨rfl, rfl, rfl⟩ := trodAll_nil r0
  obtain rfl : args = #[v0] := by cases args; simp_all
  obtain ⟨rfl, rfl⟩ := trodVars_none hV
  have k0 := h0
  have lt0 : ∀ x ∈ p0, x.block < W.heap.size := by obtain ⟨m, hm⟩ := k0; exact DataW.trod_lt m _ _ _ hm
  obtain ⟨a0, w0⟩ := arg_open (opens_sl (e' := 5) Tryz.underlying40 (by kernel_rfl) (by decide) (opens_byte Tryz.underlying5)) h0
  rw [arg_slice Tryz.underlying40 (hval 0 40 v0 rfl rfl)] at w0
  clear hA0 hval0
  refine (walk W v0 a0 w0 hmlen).mono fun e W' ⟨he, hgro⟩ => ?_
  subst he
  have bel := hgro.below
  exact ⟨_, rfl, _, _, _, [], _, [], hW', trodAll_mk1 (shut_bool Tryz.underlying4 _), (trodAll_cons_mk (Below.trod laidOut (by kernel_rfl) (of_decide_eq_true (by kernel_rfl)) k0 bel lt0) trodAll_mk0), rfl, bel.frame _, fun h => by cases h⟩
theorem over : Rows.fnEntriesRow.holds Tryz.pinned (OpenSpec.ofChange Rows.fnEntriesSpec) :=
  OpenClaim.holds_of_wide 4 Tryz.f4 rfl rfl rfl rfl rfl rfl rfl ⟨rfl, rfl, rfl, rfl, rfl⟩ rfl rfl rfl rfl rfl (by kernel_rfl) Tryz.func4 (by kernel_rfl)
    (of_decide_eq_true (by kernel_rfl)) (by unfold Func.isWrapper; first | (rw [if_pos (by decide +kernel)]; kernel_rfl) | (rw [if_neg (by decide +kernel)]; exact ⟨rfl, rfl⟩))
    (fun os started H enc _ => lifted os started H enc)
/-- THE STATEMENT: the tied card -/
theorem proved : Rows.FnEntriesCardSaid :=
  Claim7.holds_tied_plain_at .later [] [.data, .data, .data, .data, .pinned] true (true, "223fded4ff9f1d09fa78e75d94c7dee0f8fbcb9fe27840c39f670ffa5240e8df") false
    over (fun _ h => by cases h) (by kernel_rfl) (fun _ h => by cases h) fnEntries_row_tie rfl ⟨rfl, rfl⟩ (by kernel_rfl) rfl
    (fun f fn hf hfn => by
      obtain rfl : f = 4 := Option.some.inj ((show Tryz.prog.funcNamed "loop.example/g03314/laws.FnEntries" = some 4 by kernel_rfl).symm.trans hf) |>.symm
      obtain rfl : fn = Tryz.f4 := (Option.some.inj (Tryz.func4.symm.trans hfn)).symm
      exact ⟨by kernel_rfl, fun j t ht => by
        rw [Tryz.params4] at ht
        have hm : t ∈ [40] := by simpa using Array.mem_of_getElem? ht
        have hall : ([40].all fun u => !Tryz.prog.wantsStandIn u) = true := by kernel_rfl
        exact (show Tryz.prog.wantsStandIn t = false by simpa using List.all_eq_true.1 hall t hm)⟩)
    (by kernel_rfl)
#print axioms proved
end Go.Proofs.YtdlkoffandhclaaGreatDoor.fnEntries
