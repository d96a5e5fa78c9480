/-
  The law FnMerged answers true for every input: merging drawn profiles is commutative and associative, adds totals, and twice the same profile is its double; the input stays. No condition.
-/
import Derived.Test.YtdlkoffandhclaaGreatDoorBytes
import Derived.Test.YtdlkoffandhclaaGreatDoorAppend2
import Derived.Test.YtdlkoffandhclaaGreatDoorBox2
import Derived.Test.YtdlkoffandhclaaGreatDoorOpen
import Derived.BigQuiet
import Derived.Deep.RegionHeld3
import Derived.Test.YtdlkoffandhclaaGreatDoorRowsPut
import Derived.Test.YtdlkoffandhclaaGreatDoorLists
import Derived.Test.YtdlkoffandhclaaGreatDoorRing
import Derived.Test.YtdlkoffandhclaaGreatDoorEntLaw
import Derived.Test.YtdlkoffandhclaaGreatDoorParseLaw
import Derived.Test.YtdlkoffandhclaaGreatDoorPathLaw
import Derived.Test.YtdlkoffandhclaaGreatDoorScaleLaw
import Derived.Test.YtdlkoffandhclaaGreatDoorStacks3
import Derived.Deep.RegionWith
import Derived.Deep.RegionLaw
import Derived.Test.YtdlkoffandhclaaGreatDoorProfile2
import Derived.Test.YtdlkoffandhclaaGreatDoorProfOf
import Derived.Test.YtdlkoffandhclaaGreatDoorSameP
import Derived.Test.YtdlkoffandhclaaGreatDoorMerge
import Derived.Test.YtdlkoffandhclaaGreatDoorFnProfile
import Derived.Test.YtdlkoffandhclaaGreatDoorProg
import Derived.Test.YtdlkoffandhclaaGreatDoorParse3
import Derived.HandedShaped
import Derived.Lay
import Derived.Test.YtdlkoffandhclaaGreatDoorRows
import Derived.Test.YtdlkoffandhclaaGreatDoorScale
import Derived.Test.YtdlkoffandhclaaGreatDoorTie
import Derived.Test.YtdlkoffandhclaaGreatDoorCards
import Derived.LaidMore
import Derived.Stop.Joined
import Derived.SevenTiedAt
import Derived.ShutString
import Derived.Deep.CutRange
set_option linter.unusedVariables false
set_option linter.unusedSimpArgs false
namespace Go.Proofs.YtdlkoffandhclaaGreatDoor
open Go.RowKit
/-- the part below a block number -/
def cut (W : World) (n : Nat) : World := { W with heap := W.heap.extract 0 n }
theorem cut_size {W : World} {n : Nat} (h : n ≤ W.heap.size) : (cut W n).heap.size = n := by
  simp only [cut, Array.size_extract]
  omega
theorem cut_get {W : World} {n i : Nat} (h : n ≤ W.heap.size) (hi : i < n) : (cut W n).heap[i]? = W.heap[i]? := by
  simp only [cut]
  rw [Array.getElem?_extract, if_pos (by omega), Nat.zero_add]
theorem cut_gro {W : World} {n : Nat} (h : n ≤ W.heap.size) : Gro (cut W n) W :=
  Gro.of_below ⟨rfl, rfl, rfl, by rw [cut_size h]; exact h, fun k hk => by rw [cut_size h] at hk; exact (cut_get h hk).symm⟩
theorem Gro.cut {w W : World} {n : Nat} (h : Gro w W) (hn : w.heap.size ≤ n) (h2 : n ≤ W.heap.size) : Gro w (cut W n) := by
  have hb := h.below
  exact Gro.of_below ⟨hb.os, hb.tape, hb.output, by rw [cut_size h2]; exact hn, fun k hk => by rw [cut_get h2 (by omega)]; exact hb.block k hk⟩
theorem cell_up {a b : World} (h : Gro a b) {p : Addr} {v : Value} (hp : a.cell? p = some v) : b.cell? p = some v := by
  obtain ⟨os, d, rfl⟩ := h
  exact gro_keeps hp os d
/-- a cursor's block -/
structure Cur (w W : World) (k : Nat) : Prop where
  lo : w.heap.size ≤ k
  gro : Gro w W
  at_ : ∃ (A : Option Addr) (n c : Nat) (i h : Int) (xs : List UInt8), W.heap[k]? = some (.cells #[.slice A n c, .int .i64 i, .int .i64 h] 107 (0, 0)) ∧ 0 ≤ i ∧ I64 i ∧ I64 h ∧ (byteT.sl 5).R w w.heap.size [.slice A n c] xs
theorem Cur.lt {w W : World} {k : Nat} (h : Cur w W k) : k < W.heap.size := by
  obtain ⟨_, _, _, _, _, _, h1, _⟩ := h.at_
  exact (Array.getElem?_eq_some_iff.1 h1).1
/-- a world that has the cursor's block and grows from the same beginning -/
theorem Cur.to {w W W' : World} {k : Nat} (h : Cur w W k) (hb : W'.heap[k]? = W.heap[k]?) (hg : Gro w W') : Cur w W' k := by
  obtain ⟨A, n, c, i, h', xs, h1, h2⟩ := h.at_
  exact ⟨h.lo, hg, A, n, c, i, h', xs, by rw [hb]; exact h1, h2⟩
theorem Cur.more {w W W' : World} {k : Nat} (h : Cur w W k) (hg : Gro W W') : Cur w W' k := h.to (hg.block h.lt) (h.gro.trans hg)
theorem Cur.only {w W W' : World} {k : Nat} {S : List Nat} (h : Cur w W k) (hs : OnlyS S W W') (hk : k ∉ S) (hS : ∀ b ∈ S, w.heap.size ≤ b) : Cur w W' k := h.to (hs.block k h.lt hk) (hs.gro h.gro hS)
theorem Cur.below {w W W' : World} {k lo : Nat} (h : Cur w W k) (hb : Below lo W W') (hk : k < lo) : Cur w W' k :=
  h.to (hb.block k hk) (Gro.of_below (h.gro.below.trans (hb.mono (by have := h.lo; omega))))
theorem OnlyS.below {S : List Nat} {a W W' : World} {lo : Nat} (h : OnlyS S a W) (hb : Below lo W W') (hl : a.heap.size ≤ lo) : OnlyS S a W' :=
  ⟨hb.os.trans h.os, hb.tape.trans h.tape, hb.output.trans h.output, Nat.le_trans h.size hb.size, fun i hi hn => (hb.block i (by omega)).trans (h.block i hi hn)⟩
theorem FrN.only {α : Type} {T : Ty α} {lo hi k : Nat} {a b : World} {cs : List Value} {x : α} (h : FrN T lo hi a cs x) (hs : OnlyS [k] a b) (hk : k < lo) : FrN T lo hi b cs x := by
  obtain ⟨S, h1, h2, h3⟩ := h
  exact ⟨S, T.keepO h1 (fun j hj => hs.block j (T.ltO h1 j hj) (by have := h3 j hj; simp; omega)), h2, h3⟩
section
variable {α : Type} {T : Ty α} {e : TypeId} {P : Program} {t : TypeId} {bytes : Nat} {ops : Array Oper} {rest : List Oper} {o : Oper} {a : Act} {Q : Exit → Act → World → Prop} {K : Act → World → Prop}
/-- 'append(own, v)' in a world of which the own blocks' beginning alone is known -/
theorem run_append_up (hE : Elem P t e T bytes) {ty : TypeId} {W We : World} {lo hi g cc : Nat} {A : Option Addr} {n c : Nat} {xs : List α} (h : FrN (T.sl e) lo hi W [.slice A n c] xs) (hlo : lo ≤ W.heap.size)
    {ec : List Value} {y : α} (hy : Fresh T We W ec y) (hhi : hi ≤ We.heap.size) (hle : lo ≤ We.heap.size) (hcell : ∀ (j : Nat) (u : Value), ec[j]? = some u → W.cell? ⟨g, j, none⟩ = some u)
    {L : Nat} (hL : L = n + 1) (hb : L * bytes ≤ 140737488355328) (h63 : L ≤ 9223372036854775807) :
    ∃ A' c'' W', (Builtin.append_ #[t, t] ty #[.slice A n c, .slice (some ⟨g, 0, none⟩) 1 cc]).run P W = .ok (.slice A' L c'') W' ∧ Below lo W W' ∧ FrN (T.sl e) lo W'.heap.size W' [.slice A' L c''] (xs ++ [y]) := by
  obtain ⟨S, h1, h2, h3⟩ := h
  have hf : Fre (T.sl e) (cut W lo) hi W [.slice A n c] xs := ⟨S, h1, h2, fun b hb => by rw [cut_size hlo]; exact h3 b hb⟩
  have hg : Gro (cut W lo) W := cut_gro hlo
  obtain ⟨A', c'', W', hrun, ⟨row, hgr, hrow⟩, hF⟩ := run_append_one (P := P) (ty := ty) (W0 := cut W lo) (We := We) (m0 := lo) hE hlo hle hf hy hhi (by rw [cut_size hlo]; exact hle) hcell hL hb h63
  have hg2 := hg.grown hgr (fun k hk => (hrow k hk).1)
  have hb2 := hg2.below
  rw [cut_size hlo] at hb2
  obtain ⟨S2, k1, k2, k3⟩ := hF
  refine ⟨A', c'', W', hrun, ⟨hb2.os, hb2.tape, hb2.output, hgr.size, fun i hi => (hb2.block i hi).trans (cut_get hlo hi)⟩, S2, k1, k2, fun b hb => ⟨?_, (T.sl e).ltO k1 b hb⟩⟩
  rcases k3 b hb with h | h
  · rw [cut_size hlo] at h
    exact h.1
  · exact h
theorem step_append_up {E : Prop} (hgd : o.guard = none) (s x : Operand) (hE : Elem P t e T bytes) (hf : Flat T) {W W1 : World} {lo hi B g cc : Nat} {A : Option Addr} {n c : Nat} {xs : List α} (h : FrN (T.sl e) lo hi W [.slice A n c] xs) (hlo : lo ≤ W.heap.size) (hhi : hi ≤ W.heap.size)
    {ec : List Value} {y : α} (hy : T.R W1 B ec y)
    (ho : o.op = .call { callee := .builtin .append, args := #[s, x], argTypes := #[t, t] }) (hs : a.eval s = .slice A n c) (hx : a.eval x = .slice (some ⟨g, 0, none⟩) 1 cc)
    (hcell : ∀ (j : Nat) (u : Value), ec[j]? = some u → W.cell? ⟨g, j, none⟩ = some u)
    {L : Nat} (hL : L = n + 1) (hb : L * bytes ≤ 140737488355328) (h63 : L ≤ 9223372036854775807)
    (hK : ∀ A' c'' W', Below lo W W' → FrN (T.sl e) lo W'.heap.size W' [.slice A' L c''] (xs ++ [y]) → K (a.put o.dst (.slice A' L c'')) W') : if Region.wanted o (yielded ops a.tmps) = true then Oper.wp P o a W K Q else E := by
  have hw : Region.wanted o (yielded ops a.tmps) = true := by simp [Region.wanted, hgd]
  rw [if_pos hw]
  obtain ⟨A', c'', W', hrun, hbl, hF⟩ := run_append_up (P := P) (ty := o.type) hE h hlo (We := W) (fresh_flat hf hy) hhi hlo hcell hL hb h63
  exact wp_of_run_append s x ho hs hx hrun (hK A' c'' W' hbl hF)
theorem wpList_append_up (hgd : o.guard = none) (s x : Operand) (hE : Elem P t e T bytes) {W We : World} {lo hi g cc : Nat} {A : Option Addr} {n c : Nat} {xs : List α} (h : FrN (T.sl e) lo hi W [.slice A n c] xs) (hlo : lo ≤ W.heap.size)
    {ec : List Value} {y : α} (hy : Fresh T We W ec y) (hhi : hi ≤ We.heap.size) (hle : lo ≤ We.heap.size)
    (ho : o.op = .call { callee := .builtin .append, args := #[s, x], argTypes := #[t, t] }) (hs : a.eval s = .slice A n c) (hx : a.eval x = .slice (some ⟨g, 0, none⟩) 1 cc)
    (hcell : ∀ (j : Nat) (u : Value), ec[j]? = some u → W.cell? ⟨g, j, none⟩ = some u)
    {L : Nat} (hL : L = n + 1) (hb : L * bytes ≤ 140737488355328) (h63 : L ≤ 9223372036854775807)
    (hK : ∀ A' c'' W', Below lo W W' → FrN (T.sl e) lo W'.heap.size W' [.slice A' L c''] (xs ++ [y]) → wpList P ops Q rest (a.put o.dst (.slice A' L c'')) W') : wpList P ops Q (o :: rest) a W :=
  wpList_plain hgd fun K hKK => by
    obtain ⟨A', c'', W', hrun, hbl, hF⟩ := run_append_up (P := P) (ty := o.type) hE h hlo hy hhi hle hcell hL hb h63
    exact wp_of_run_append s x ho hs hx hrun (hKK _ _ (hK A' c'' W' hbl hF))
end
end Go.Proofs.YtdlkoffandhclaaGreatDoor
namespace Go.Proofs.YtdlkoffandhclaaGreatDoor
open Go.RowKit
theorem opens_byte {P : Program} {t : TypeId} (ht : P.underlying t = some (.int .u8)) : Opens P t byteT := by
  intro H enc W spare held fuel cs x h
  obtain ⟨n, rfl, _, hw⟩ := DataW.trod_int ht h
  have h1 : 0 ≤ n ∧ n ≤ 255 := by simpa [Lit.wf, IntKind.min, IntKind.max, IntKind.signed, IntKind.bits] using hw
  exact ⟨_, byte_mkR h1.1 (by omega)⟩
theorem and255 (a : Int) : ∃ n : Nat, bits .and .i64 a 255 = (n : Int) ∧ n < 256 := by
  refine ⟨((BitVec.ofInt 64 a &&& BitVec.ofInt 64 255).toNat), ?_, ?_⟩
  · show IntKind.i64.wrap ((BitVec.ofInt 64 a &&& BitVec.ofInt 64 255).toNat : Int) = _
    rw [BitVec.toNat_and, show (BitVec.ofInt 64 255).toNat = 2 ^ 8 - 1 from rfl, Nat.and_two_pow_sub_one_eq_mod]
    exact IntWalk.i64_in _ ⟨by omega, by omega⟩
  · rw [BitVec.toNat_and, show (BitVec.ofInt 64 255).toNat = 2 ^ 8 - 1 from rfl, Nat.and_two_pow_sub_one_eq_mod]
    omega
theorem cur_cells {W : World} {k : Nat} {a b c : Value} (h : W.heap[k]? = some (.cells #[a, b, c] 107 (0, 0))) :
    W.cell? ⟨k, 0, none⟩ = some a ∧ W.cell? ⟨k, 1, none⟩ = some b ∧ W.cell? ⟨k, 2, none⟩ = some c ∧ (∀ j, W.frozen? ⟨k, j, none⟩ = false) := by
  refine ⟨?_, ?_, ?_, fun j => by simp [World.frozen?, h]⟩
  all_goals
    rw [cell_of_row W k _ _ _ (0, 0) h]
    rfl
theorem and_i64 (a b : Int) : I64 (bits .and .i64 a b) := by
  show I64 (IntKind.i64.wrap _)
  rw [IntKind.wrap_i64]
  constructor <;> omega
theorem wrap64_i64 (n : Int) : I64 (wrap64 n) := by
  unfold wrap64
  constructor <;> omega
/-- the cursor written, and nothing else -/
structure CurS (w W0 W : World) (k : Nat) (A : Option Addr) (n c : Nat) (i h : Int) : Prop where
  lo : w.heap.size ≤ k
  gro : Gro w W
  only : OnlyS [k] W0 W
  blk : W.heap[k]? = some (.cells #[.slice A n c, .int .i64 i, .int .i64 h] 107 (0, 0))
  i0 : 0 ≤ i
  i1 : I64 i
  h1 : I64 h
  read : ∃ xs, (byteT.sl 5).R w w.heap.size [.slice A n c] xs
theorem CurS.out {w W0 W : World} {k : Nat} {A : Option Addr} {n c : Nat} {i h : Int} (H : CurS w W0 W k A n c i h) : Cur w W k ∧ OnlyS [k] W0 W := by
  obtain ⟨xs, hx⟩ := H.read
  exact ⟨⟨H.lo, H.gro, A, n, c, i, h, xs, H.blk, H.i0, H.i1, H.h1, hx⟩, H.only⟩
theorem CurS.seth {w W0 W : World} {k : Nat} {A : Option Addr} {n c : Nat} {i h h' : Int} (H : CurS w W0 W k A n c i h) (hb : I64 h') : CurS w W0 (W.setCell ⟨k, 2, none⟩ (.int .i64 h')) k A n c i h' :=
  ⟨H.lo, H.gro.setRow (p := ⟨k, 2, none⟩) H.lo _, H.only.setCell (p := ⟨k, 2, none⟩) (by simp) _, heap_setCell_at H.blk 2 _, H.i0, H.i1, hb, H.read⟩
theorem CurS.seti {w W0 W : World} {k : Nat} {A : Option Addr} {n c : Nat} {i h i' : Int} (H : CurS w W0 W k A n c i h) (hb0 : 0 ≤ i') (hb : I64 i') : CurS w W0 (W.setCell ⟨k, 1, none⟩ (.int .i64 i')) k A n c i' h :=
  ⟨H.lo, H.gro.setRow (p := ⟨k, 1, none⟩) H.lo _, H.only.setCell (p := ⟨k, 1, none⟩) (by simp) _, heap_setCell_at H.blk 1 _, hb0, hb, H.h1, H.read⟩
theorem CurS.drewN {w W0 W : World} {k : Nat} {A : Option Addr} {n c : Nat} {i h : Int} (H : CurS w W0 W k A n c i h) (m : Nat) : CurS w W0 (W.drewN m) k A n c i h :=
  ⟨H.lo, H.gro.drewN m, H.only.trans ((Gro.drewN (Gro.refl _) m).only _), H.blk, H.i0, H.i1, H.h1, H.read⟩
set_option maxRecDepth 100000 in
theorem byte_s {w W : World} {k : Nat} (hC : Cur w W k) : Calls Tryz.prog 108 #[.pointer (some ⟨k, 0, none⟩)] W fun e W' => ∃ x : Nat, e = .returned (.int .i64 (x : Int)) ∧ x < 256 ∧ Cur w W' k ∧ OnlyS [k] W W' := by
  obtain ⟨hlo, hgr, A, n, c, i, h, xs, hk, hi0, hi1, hh, hx⟩ := hC
  have H0 : CurS w W W k A n c i h := ⟨hlo, hgr, OnlyS.refl _ _, hk, hi0, hi1, hh, xs, hx⟩
  obtain ⟨_, _, hv, hxl, hcm⟩ := sl_at hx
  injection hv with hA hn hc
  subst hA hn hc
  obtain ⟨hc0, hc1, hc2, hfz⟩ := cur_cells hk
  have hf1 := hfz 1
  have hf2 := hfz 2
  go_enter Tryz.func108, Tryz.ntmps108
  go_wp2_with (fail)
  go_quiet (fail)
  go_wp2_with (fail)
  by_cases hlt : i < xs.length
  · obtain ⟨j, rfl⟩ := Int.eq_ofNat_of_zero_le hi0
    obtain ⟨g, off, x, ec, rfl, hgb, hxk, rfl, hcell⟩ := elem_at hx (k := j) (by omega)
    have hcx := cell_up hgr (hcell 0 _ rfl)
    simp only [show byteT.size = 1 from rfl, Nat.mul_one, Nat.add_zero] at hcx
    have hgk : g ≠ k := by omega
    have hxb := x.toNat_lt
    clear hcell hxk
    go_quiet (fail)
    go_wp2_with (fail)
    go_quiet (fail)
    go_wp2_with (fail)
    go_ret
    refine ⟨_, congrArg (fun z => Ending.returned (.int .i64 z)) (and255 _).choose_spec.1, (and255 _).choose_spec.2, ?_, ?_⟩
    · exact (((H0.seth (wrap64_i64 _)).seti (by omega) ⟨by omega, by omega⟩).drewN _).out.1
    · exact (((H0.seth (wrap64_i64 _)).seti (by omega) ⟨by omega, by omega⟩).drewN _).out.2
  · go_quiet (fail)
    go_wp2_with (fail)
    go_ret
    refine ⟨_, congrArg (fun z => Ending.returned (.int .i64 z)) (and255 _).choose_spec.1, (and255 _).choose_spec.2, ?_, ?_⟩
    · exact ((H0.seth (wrap64_i64 _)).drewN _).out.1
    · exact ((H0.seth (wrap64_i64 _)).drewN _).out.2
theorem new_blk {w : World} {os : Array Obj} {d : Nat} (b : Obj) (n : Nat) (h : n = w.heap.size + os.size := by rfl) : ((gro w os d).alloc b).heap[n]? = some b := by
  subst h
  have := heap_alloc_new (gro w os d) b
  rwa [gro_size] at this
set_option maxRecDepth 100000 in
theorem new_s {w : World} {A : Option Addr} {n c : Nat} {xs : List UInt8} (hx : (byteT.sl 5).R w w.heap.size [.slice A n c] xs) (hl : xs.length ≤ 1099511627776) : Calls Tryz.prog 49 #[.slice A n c] w fun e W' => ∃ k, e = .returned (.pointer (some ⟨k, 0, none⟩)) ∧ Cur w W' k := by
  have hx' := hx
  obtain ⟨_, _, hv, hxl, hcm⟩ := sl_at hx
  injection hv with hA hn hc
  subst hA hn hc
  go_enter Tryz.func49, Tryz.ntmps49
  go_wp2_with (fail)
  go_loopw [3, 4] (fun a b wr => ∃ (h : Int) (j : Nat), a = .int .i64 h ∧ b = .int .i64 j ∧ j ≤ xs.length ∧ I64 h ∧ Hid (Gro w wr)) (fun _ b _ => xs.length - (intOf b).toNat)
  case atStart => exact ⟨33147 + xs.length, 0, rfl, rfl, Nat.zero_le _, ⟨by omega, by omega⟩, Lib.hid (Gro.refl _)⟩
  case round =>
    obtain ⟨h, j, rfl, rfl, hj, hh, hG⟩ := hrel
    obtain ⟨os, d, rfl⟩ := hG.out
    clear hG
    by_cases hlt : j < xs.length ∧ j < 4000
    · obtain ⟨hlt1, hlt2⟩ := hlt
      obtain ⟨g, off, x, ec, rfl, hgb, hxk, rfl, hcell⟩ := elem_at hx (k := j) hlt1
      have hcx := hcell 0 _ rfl
      simp only [show byteT.size = 1 from rfl, Nat.mul_one, Nat.add_zero] at hcx
      have hxb := x.toNat_lt
      clear hcell hxk hx
      go_wp2_with (fail)
      go_roundw
      case rel => exact ⟨_, j + 1, rfl, by go_num, by omega, and_i64 _ _, Lib.hid (by repeat (first | with_reducible exact Gro.refl _ | with_reducible exact Gro.refl_drew _ _ _ | with_reducible exact Gro.refl_drewN _ _ _ _ | assumption | with_reducible apply Gro.more | with_reducible apply Gro.alloc | with_reducible apply Gro.drew | with_reducible apply Gro.drewN))⟩
      case measure => simp [intOf]; omega
    · by_cases hlt1 : j < xs.length
      · have hlt2 : ¬ j < 4000 := fun h => hlt ⟨hlt1, h⟩
        go_wp2_with (fail)
        go_ret
        refine ⟨_, rfl, ?_⟩
        exact ⟨by omega, (by repeat (first | with_reducible exact Gro.refl _ | with_reducible exact Gro.refl_drew _ _ _ | with_reducible exact Gro.refl_drewN _ _ _ _ | assumption | with_reducible apply Gro.more | with_reducible apply Gro.alloc | with_reducible apply Gro.drew | with_reducible apply Gro.drewN)), _, _, _, 0, h, xs, new_blk _ _, Int.le_refl _, ⟨by omega, by omega⟩, hh, hx⟩
      · go_wp2_with (fail)
        go_ret
        refine ⟨_, rfl, ?_⟩
        exact ⟨by omega, (by repeat (first | with_reducible exact Gro.refl _ | with_reducible exact Gro.refl_drew _ _ _ | with_reducible exact Gro.refl_drewN _ _ _ _ | assumption | with_reducible apply Gro.more | with_reducible apply Gro.alloc | with_reducible apply Gro.drew | with_reducible apply Gro.drewN)), _, _, _, 0, h, xs, new_blk _ _, Int.le_refl _, ⟨by omega, by omega⟩, hh, hx⟩
set_option maxRecDepth 100000 in
theorem below_n {w W : World} {k : Nat} (hC : Cur w W k) (n : Nat) (hn : 0 < n) (hn2 : n ≤ 1099511627776) : Calls Tryz.prog 79 #[.pointer (some ⟨k, 0, none⟩), .int .i64 (n : Int)] W fun e W' => ∃ x : Nat, e = .returned (.int .i64 (x : Int)) ∧ x < n ∧ Cur w W' k ∧ OnlyS [k] W W' := by
  by_cases h : n ≤ 256
  · go_enter Tryz.func79, Tryz.ntmps79
    go_wp2_with (go_at_call 108; (with_reducible refine (byte_s hC).mono ?_); rintro e W1 ⟨x, rfl, hx, hC1, hS1⟩)
    go_ret
    refine ⟨x % n, ?_, Nat.mod_lt _ hn, hC1, hS1⟩
    exact ret_int (show (x : Int) % (n : Int) = ((x % n : Nat) : Int) from (Int.natCast_emod x n).symm)
  · go_enter Tryz.func79, Tryz.ntmps79
    go_wp2_with (fail)
    refine (byte_s hC).mono ?_
    rintro e W1 ⟨x1, rfl, hx1, hC1, hS1⟩
    go_wp2_with (fail)
    refine (byte_s hC1).mono ?_
    rintro e W2 ⟨x2, rfl, hx2, hC2, hS2⟩
    go_wp2_with (fail)
    refine (byte_s hC2).mono ?_
    rintro e W3 ⟨x3, rfl, hx3, hC3, hS3⟩
    go_wp2_with (fail)
    refine (byte_s hC3).mono ?_
    rintro e W4 ⟨x4, rfl, hx4, hC4, hS4⟩
    go_wp2_with (fail)
    go_ret
    refine ⟨(x1 * 16777216 + x2 * 65536 + x3 * 256 + x4) % n, ?_, Nat.mod_lt _ hn, hC4, ((hS1.trans hS2).trans hS3).trans hS4⟩
    exact ret_int (show ((x1 : Int) * 16777216 + x2 * 65536 + x3 * 256 + x4) % (n : Int) = (((x1 * 16777216 + x2 * 65536 + x3 * 256 + x4) % n : Nat) : Int) from by rw [Int.natCast_emod]; rfl)
theorem below_s {w W : World} {k : Nat} (hC : Cur w W k) (n : Int) (hn : 0 < n) (hn2 : n ≤ 1099511627776) : Calls Tryz.prog 79 #[.pointer (some ⟨k, 0, none⟩), .int .i64 n] W fun e W' => ∃ x : Nat, e = .returned (.int .i64 (x : Int)) ∧ (x : Int) < n ∧ Cur w W' k ∧ OnlyS [k] W W' := by
  obtain ⟨n, rfl⟩ := Int.eq_ofNat_of_zero_le (show 0 ≤ n by omega)
  refine (below_n hC n (by omega) (by omega)).mono ?_
  rintro e W' ⟨x, h1, h2, h3⟩
  exact ⟨x, h1, by omega, h3⟩
set_option maxRecDepth 100000 in
theorem pick_s {w W : World} {k : Nat} (hC : Cur w W k) {A : Option Addr} {n c : Nat} {xs : List Int} (hx : (intT.sl 3).R W W.heap.size [.slice A n c] xs) (hk : ∀ ad, A = some ad → ad.block ≠ k) (h0 : 0 < n) (h1 : n ≤ 1000000) : Calls Tryz.prog 81 #[.pointer (some ⟨k, 0, none⟩), .slice A n c] W fun e W' => ∃ x : Int, e = .returned (.int .i64 x) ∧ x ∈ xs ∧ Cur w W' k ∧ OnlyS [k] W W' := by
  obtain ⟨_, _, hv, hxl, hcm⟩ := sl_at hx
  injection hv with hA hn hc
  subst hA hn hc
  go_enter Tryz.func81, Tryz.ntmps81
  go_wp2_with (fail)
  refine (below_s hC xs.length (by omega) (by omega)).mono ?_
  rintro e W1 ⟨i, rfl, hi, hC1, hS1⟩
  obtain ⟨g, off, x, ec, rfl, hgb, hxk, hR, hcell⟩ := elem_at hx (k := i) (by omega)
  obtain ⟨rfl, _⟩ := hR
  have hcx := (hS1.cell hgb (by simpa using hk _ rfl) _).trans (hcell 0 _ rfl)
  simp only [show intT.size = 1 from rfl, Nat.mul_one, Nat.add_zero] at hcx
  go_wp2_with (fail)
  go_ret
  exact ⟨x, rfl, List.mem_of_getElem? hxk, hC1, hS1⟩
end Go.Proofs.YtdlkoffandhclaaGreatDoor
namespace Go.Proofs.YtdlkoffandhclaaGreatDoor
open Go.RowKit
set_option maxRecDepth 100000 in
theorem big_l (A : Option Addr) (n c : Nat) (w : World) : Calls Tryz.prog 15 #[.slice A n c] w fun e w' => e = .returned (.bool (decide (1048576 < (n : Int)))) ∧ Gro w w' := by
  go_enter Tryz.func15, Tryz.ntmps15
  go_wp2_with (fail)
  go_ret
  exact ⟨rfl, (by repeat (first | with_reducible exact Gro.refl _ | with_reducible exact Gro.refl_drew _ _ _ | with_reducible exact Gro.refl_drewN _ _ _ _ | assumption | with_reducible apply Gro.more | with_reducible apply Gro.alloc | with_reducible apply Gro.drew | with_reducible apply Gro.drewN))⟩
end Go.Proofs.YtdlkoffandhclaaGreatDoor
namespace Go.Proofs.YtdlkoffandhclaaGreatDoor
open Go.RowKit
/-- owned, by the blocks of S, none twice -/
def Has {α : Type} (T : Ty α) (W : World) (cs : List Value) (x : α) (S : List Nat) : Prop := T.O W cs x S ∧ S.Nodup
theorem Has.lt {α : Type} {T : Ty α} {W : World} {cs : List Value} {x : α} {S : List Nat} (h : Has T W cs x S) : ∀ b ∈ S, b < W.heap.size := T.ltO h.1
theorem Has.read {α : Type} {T : Ty α} {W : World} {cs : List Value} {x : α} {S : List Nat} (h : Has T W cs x S) : T.R W W.heap.size cs x := T.read h.1
theorem Has.keep {α : Type} {T : Ty α} {W W' : World} {cs : List Value} {x : α} {S L : List Nat} (h : Has T W cs x S) (ho : OnlyS L W W') (hd : ∀ b ∈ S, b ∉ L) : Has T W' cs x S :=
  ⟨T.keepO h.1 (fun k hk => ho.block k (h.lt k hk) (hd k hk)), h.2⟩
theorem Has.gro {α : Type} {T : Ty α} {W W' : World} {cs : List Value} {x : α} {S : List Nat} (h : Has T W cs x S) (hg : Gro W W') : Has T W' cs x S := ⟨T.groO h.1 hg, h.2⟩
theorem Has.fresh {α : Type} {T : Ty α} {w W : World} {cs : List Value} {x : α} {S : List Nat} (h : Has T W cs x S) (hl : ∀ b ∈ S, w.heap.size ≤ b) : Fresh T w W cs x := ⟨S, h.1, h.2, hl⟩
theorem Fresh.has {α : Type} {T : Ty α} {w W : World} {cs : List Value} {x : α} (h : Fresh T w W cs x) : ∃ S, Has T W cs x S ∧ ∀ b ∈ S, w.heap.size ≤ b := by
  obtain ⟨S, h1, h2, h3⟩ := h
  exact ⟨S, ⟨h1, h2⟩, h3⟩
theorem Has.same {α : Type} {T : Ty α} {W W' : World} {cs : List Value} {x : α} {S : List Nat} {n : Nat} (h : Has T W cs x S) (hl : ∀ b ∈ S, n ≤ b) (hs : Same n W.heap.size W W') : Has T W' cs x S :=
  ⟨T.keepO h.1 (fun k hk => hs k (hl k hk) (h.lt k hk)), h.2⟩
theorem Has.prod {α β : Type} {T : Ty α} {U : Ty β} {W : World} {c1 c2 : List Value} {x : α × β} {S : List Nat} (hl : c1.length = T.size) (h : Has (T.prod U) W (c1 ++ c2) x S) : ∃ S1 S2, Has T W c1 x.1 S1 ∧ Has U W c2 x.2 S2 ∧ (∀ b ∈ S1, b ∈ S) ∧ (∀ b ∈ S2, b ∈ S) ∧ ∀ b ∈ S1, b ∉ S2 := by
  obtain ⟨⟨d1, d2, S1, S2, he, rfl, h1, h2⟩, hN⟩ := h
  have hl2 := T.lenO h1
  have h3 : c1 = d1 ∧ c2 = d2 := List.append_inj he (by omega)
  obtain ⟨rfl, rfl⟩ := h3
  obtain ⟨n1, n2, n3, _⟩ := nd2 hN
  exact ⟨S1, S2, ⟨h1, n1⟩, ⟨h2, n2⟩, fun b hb => List.mem_append_left _ hb, fun b hb => List.mem_append_right _ hb, n3⟩
theorem Has.nil {α : Type} (T : Ty α) (e : TypeId) (W : World) : Has (T.sl e) W [.slice none 0 0] [] [] := by
  obtain ⟨S, h1, h2, h3⟩ := fresh_nil (T := T) (e := e) W W
  refine ⟨?_, by simp⟩
  obtain ⟨A', c', ecs, S', h4, h5, h6, h7⟩ := h1
  injection h4 with h4 _
  injection h4 with hA hn hc
  subst hA hc
  obtain ⟨h8, h9⟩ := h6
  exact ⟨none, 0, ecs, [], rfl, h5, ⟨h8, rfl⟩, rfl⟩
theorem Has.emp {α : Type} (T : Ty α) {e : TypeId} {W : World} {g : Nat} (hg : W.heap[g]? = some (.cells #[] e (0, 0))) : Has (T.sl e) W [.slice (some ⟨g, 0, none⟩) 0 0] [] [g] :=
  ⟨own_made (T := T) (xs := []) hg ⟨rfl, rfl⟩ (by simp), by simp⟩
theorem Has.only_lo {α : Type} {T : Ty α} {W W' : World} {cs : List Value} {x : α} {S L : List Nat} {k : Nat} (h : Has T W cs x S) (ho : OnlyS L W W') (hl : ∀ b ∈ L, b ≤ k) (hs : ∀ b ∈ S, k < b) : Has T W' cs x S :=
  h.keep ho (fun b hb hm => by have := hl b hm; have := hs b hb; omega)
section
variable {α : Type} {T : Ty α} {e : TypeId} {P : Program} {t ty : TypeId} {bytes : Nat}
theorem run_append_set (hE : Elem P t e T bytes) {W : World} {S : List Nat} {A : Option Addr} {n c : Nat} {xs : List α} (h : Has (T.sl e) W [.slice A n c] xs S)
    {ad : Addr} {m c' : Nat} {ys : List α} {news : List Value} {Sy : List Nat} (hr : Rows T W news ys Sy) (hm : m = ys.length) (hcell : ∀ j u, news[j]? = some u → W.cell? (ad.add j) = some u)
    (hSy : Sy.Nodup) (hd : ∀ b ∈ S, b ∉ Sy) {L : Nat} (hL : L = n + m) (hb : L * bytes ≤ 140737488355328) (h63 : L ≤ 9223372036854775807) :
    ∃ A' c'' W' S', (Builtin.append_ #[t, t] ty #[.slice A n c, .slice (some ad) m c']).run P W = .ok (.slice A' L c'') W' ∧ OnlyS S W W' ∧ Has (T.sl e) W' [.slice A' L c''] (xs ++ ys) S' ∧ ∀ b ∈ S', b ∈ S ∨ b ∈ Sy ∨ W.heap.size ≤ b := by
  subst hL
  obtain ⟨hO, hN⟩ := h
  obtain ⟨A1, c1, ecs, S', hv, how, hrow, rfl⟩ := hO
  injection hv with hv _
  injection hv with hA hn hc
  subst hA hc
  have hn' : n = xs.length := hn
  obtain ⟨i, z, hi, hz, hsize, hby, hzs⟩ := hE.info
  have hlen : news.length = m * T.size := by rw [hr.len, hm]
  obtain ⟨v', W', hrun, hown, hgrown, _, hat⟩ := run_append_own_at (P := P) W 0 t ty e i z T.size bytes hE.ht hi hz hsize hby hzs hE.pos (.slice A xs.length c) xs.length ecs how ad m c' news hlen hcell hr.one
    (by rw [← hn']; simpa [maxLen] using h63) (by rw [← hn']; exact hb) (Nat.zero_le _)
  subst hn'
  have hkeep : ∀ k, k < W.heap.size → (∀ b ∈ blockOf A, k ≠ b) → W'.heap[k]? = W.heap[k]? := fun k hk hne => hgrown.block k hk (by
    cases A with
    | none => simp [Value.ownBlock]
    | some a => simpa [Value.ownBlock, blockOf] using hne)
  rw [List.nodup_append] at hN
  obtain ⟨hN1, hN2, hN3⟩ := hN
  have hrow' : Rows T W' ecs xs S' := hrow.keep (fun k hk => hkeep k (hrow.lt k hk) (fun b hb => (hN3 b hb k hk).symm))
  have hr' : Rows T W' news ys Sy := hr.keep (fun k hk => hkeep k (hr.lt k hk) (fun b hb heq => hd b (List.mem_append_left _ hb) (heq ▸ hk)))
  have hshape : ∃ A' c'', v' = .slice A' (xs.length + m) c'' ∧ ∀ b ∈ blockOf A', b ∈ blockOf A ∨ b = W.heap.size := by
    rcases hown.2 with ⟨rfl, h0⟩ | ⟨g, cap, cur, rfl, _⟩
    · exact ⟨none, 0, by rw [h0], by simp [blockOf]⟩
    · refine ⟨_, cap, rfl, fun b hb => ?_⟩
      simp [blockOf] at hb
      subst hb
      rcases hat with h | h
      · left
        cases A with
        | none => simp [Value.ownBlock] at h
        | some a => simp [Value.ownBlock] at h; simp [blockOf, h]
      · right
        simpa [Value.ownBlock] using h
  obtain ⟨A', c'', rfl, hA'⟩ := hshape
  refine ⟨A', c'', W', blockOf A' ++ (S' ++ Sy), hrun, ⟨hgrown.os, hgrown.tape, hgrown.output, hgrown.size, fun k hk hn => hkeep k hk (fun b hb heq => hn (List.mem_append_left _ (heq ▸ hb)))⟩,
    ⟨⟨A', c'', ecs ++ news, S' ++ Sy, by rw [List.length_append, hm], by rw [List.length_append, ← hm]; exact hown, hrow'.app hr', rfl⟩, ?_⟩, ?_⟩
  · rw [List.nodup_append]
    refine ⟨by cases A' <;> simp [blockOf], List.nodup_append.2 ⟨hN2, hSy, fun a ha b hb heq => hd a (List.mem_append_right _ ha) (heq ▸ hb)⟩, fun a ha b hb heq => ?_⟩
    subst heq
    rcases hA' a ha with h | h
    · rcases List.mem_append.1 hb with hb | hb
      · exact hN3 a h a hb rfl
      · exact hd a (List.mem_append_left _ h) hb
    · subst h
      rcases List.mem_append.1 hb with hb | hb
      · exact absurd (hrow.lt _ hb) (Nat.lt_irrefl _)
      · exact absurd (hr.lt _ hb) (Nat.lt_irrefl _)
  · intro b hb
    rcases List.mem_append.1 hb with hb | hb
    · rcases hA' b hb with h | h
      · exact .inl (List.mem_append_left _ h)
      · exact .inr (.inr (by omega))
    · rcases List.mem_append.1 hb with hb | hb
      · exact .inl (List.mem_append_right _ hb)
      · exact .inr (.inl hb)
theorem run_append_nil_has (hE : Elem P t e T bytes) {W : World} {S : List Nat} {A : Option Addr} {n c : Nat} {xs : List α} (h : Has (T.sl e) W [.slice A n c] xs S) (c' : Nat) :
    (Builtin.append_ #[t, t] ty #[.slice A n c, .slice none 0 c']).run P W = .ok (.slice A n c) W :=
  run_append_fresh_nil (W0 := { W with heap := #[] }) hE ⟨S, h.1, h.2, fun b _ => Nat.zero_le _⟩ c'
end
section
variable {α : Type} {T : Ty α} {e : TypeId} {P : Program} {t : TypeId} {bytes : Nat} {ops : Array Oper} {rest : List Oper} {o : Oper} {a : Act} {Q : Exit → Act → World → Prop} {K : Act → World → Prop}
/-- 'append(own, v)', v owned by its own blocks; a step of a region -/
theorem step_append_has {E : Prop} (hgd : o.guard = none) (s x : Operand) (hE : Elem P t e T bytes) {W : World} {g cc : Nat} {S Sy : List Nat} {A : Option Addr} {n c : Nat} {xs : List α} (h : Has (T.sl e) W [.slice A n c] xs S)
    {ec : List Value} {y : α} (hy : Has T W ec y Sy) (hd : ∀ b ∈ S, b ∉ Sy)
    (ho : o.op = .call { callee := .builtin .append, args := #[s, x], argTypes := #[t, t] }) (hs : a.eval s = .slice A n c) (hx : a.eval x = .slice (some ⟨g, 0, none⟩) 1 cc)
    (hcell : ∀ (j : Nat) (u : Value), ec[j]? = some u → W.cell? ⟨g, j, none⟩ = some u)
    {L : Nat} (hL : L = n + 1) (hb : L * bytes ≤ 140737488355328) (h63 : L ≤ 9223372036854775807)
    (hK : ∀ A' c'' W' S', OnlyS S W W' → Has (T.sl e) W' [.slice A' L c''] (xs ++ [y]) S' → (∀ b ∈ S', b ∈ S ∨ b ∈ Sy ∨ W.heap.size ≤ b) → K (a.put o.dst (.slice A' L c'')) W') : if Region.wanted o (yielded ops a.tmps) = true then Oper.wp P o a W K Q else E := by
  have hw : Region.wanted o (yielded ops a.tmps) = true := by simp [Region.wanted, hgd]
  rw [if_pos hw]
  obtain ⟨A', c'', W', S', hrun, hon, hF, hS'⟩ := run_append_set (P := P) (ty := o.type) hE h (ad := ⟨g, 0, none⟩) (m := 1) (c' := cc) (ys := [y]) (news := ec) (Sy := Sy) ⟨ec, [], Sy, [], by simp, by simp, hy.1, rfl, rfl⟩ rfl (fun j u hu => by rw [Addr.add_lit, Nat.zero_add]; exact hcell j u hu) hy.2 hd hL hb h63
  exact wp_of_run_append s x ho hs hx hrun (hK A' c'' W' S' hon hF hS')
theorem wpList_append_has (hgd : o.guard = none) (s x : Operand) (hE : Elem P t e T bytes) {W : World} {g cc : Nat} {S Sy : List Nat} {A : Option Addr} {n c : Nat} {xs : List α} (h : Has (T.sl e) W [.slice A n c] xs S)
    {ec : List Value} {y : α} (hy : Has T W ec y Sy) (hd : ∀ b ∈ S, b ∉ Sy)
    (ho : o.op = .call { callee := .builtin .append, args := #[s, x], argTypes := #[t, t] }) (hs : a.eval s = .slice A n c) (hx : a.eval x = .slice (some ⟨g, 0, none⟩) 1 cc)
    (hcell : ∀ (j : Nat) (u : Value), ec[j]? = some u → W.cell? ⟨g, j, none⟩ = some u)
    {L : Nat} (hL : L = n + 1) (hb : L * bytes ≤ 140737488355328) (h63 : L ≤ 9223372036854775807)
    (hK : ∀ A' c'' W' S', OnlyS S W W' → Has (T.sl e) W' [.slice A' L c''] (xs ++ [y]) S' → (∀ b ∈ S', b ∈ S ∨ b ∈ Sy ∨ W.heap.size ≤ b) → wpList P ops Q rest (a.put o.dst (.slice A' L c'')) W') : wpList P ops Q (o :: rest) a W :=
  wpList_plain hgd fun K hKK => by
    obtain ⟨A', c'', W', S', hrun, hon, hF, hS'⟩ := run_append_set (P := P) (ty := o.type) hE h (ad := ⟨g, 0, none⟩) (m := 1) (c' := cc) (ys := [y]) (news := ec) (Sy := Sy) ⟨ec, [], Sy, [], by simp, by simp, hy.1, rfl, rfl⟩ rfl (fun j u hu => by rw [Addr.add_lit, Nat.zero_add]; exact hcell j u hu) hy.2 hd hL hb h63
    exact wp_of_run_append s x ho hs hx hrun (hKK _ _ (hK A' c'' W' S' hon hF hS'))
/-- .. flat -/
theorem step_append_hasf {E : Prop} (hgd : o.guard = none) (s x : Operand) (hE : Elem P t e T bytes) (hf : Flat T) {W W1 : World} {B g cc : Nat} {S : List Nat} {A : Option Addr} {n c : Nat} {xs : List α} (h : Has (T.sl e) W [.slice A n c] xs S)
    {ec : List Value} {y : α} (hy : T.R W1 B ec y)
    (ho : o.op = .call { callee := .builtin .append, args := #[s, x], argTypes := #[t, t] }) (hs : a.eval s = .slice A n c) (hx : a.eval x = .slice (some ⟨g, 0, none⟩) 1 cc)
    (hcell : ∀ (j : Nat) (u : Value), ec[j]? = some u → W.cell? ⟨g, j, none⟩ = some u)
    {L : Nat} (hL : L = n + 1) (hb : L * bytes ≤ 140737488355328) (h63 : L ≤ 9223372036854775807)
    (hK : ∀ A' c'' W' S', OnlyS S W W' → Has (T.sl e) W' [.slice A' L c''] (xs ++ [y]) S' → (∀ b ∈ S', b ∈ S ∨ W.heap.size ≤ b) → K (a.put o.dst (.slice A' L c'')) W') : if Region.wanted o (yielded ops a.tmps) = true then Oper.wp P o a W K Q else E :=
  step_append_has hgd s x hE h (Sy := []) ⟨hf hy W, by simp⟩ (by simp) ho hs hx hcell hL hb h63 (fun A' c'' W' S' h1 h2 h3 => hK A' c'' W' S' h1 h2 (fun b hb => by have := h3 b hb; simpa using this))
theorem wpList_append_hasf (hgd : o.guard = none) (s x : Operand) (hE : Elem P t e T bytes) (hf : Flat T) {W W1 : World} {B g cc : Nat} {S : List Nat} {A : Option Addr} {n c : Nat} {xs : List α} (h : Has (T.sl e) W [.slice A n c] xs S)
    {ec : List Value} {y : α} (hy : T.R W1 B ec y)
    (ho : o.op = .call { callee := .builtin .append, args := #[s, x], argTypes := #[t, t] }) (hs : a.eval s = .slice A n c) (hx : a.eval x = .slice (some ⟨g, 0, none⟩) 1 cc)
    (hcell : ∀ (j : Nat) (u : Value), ec[j]? = some u → W.cell? ⟨g, j, none⟩ = some u)
    {L : Nat} (hL : L = n + 1) (hb : L * bytes ≤ 140737488355328) (h63 : L ≤ 9223372036854775807)
    (hK : ∀ A' c'' W' S', OnlyS S W W' → Has (T.sl e) W' [.slice A' L c''] (xs ++ [y]) S' → (∀ b ∈ S', b ∈ S ∨ W.heap.size ≤ b) → wpList P ops Q rest (a.put o.dst (.slice A' L c'')) W') : wpList P ops Q (o :: rest) a W :=
  wpList_append_has hgd s x hE h (Sy := []) ⟨hf hy W, by simp⟩ (by simp) ho hs hx hcell hL hb h63 (fun A' c'' W' S' h1 h2 h3 => hK A' c'' W' S' h1 h2 (fun b hb => by have := h3 b hb; simpa using this))
/-- 'append(own, list...)', flat -/
theorem run_append_hasl (hE : Elem P t e T bytes) (hf : Flat T) {ty : TypeId} {W : World} {S : List Nat} {A : Option Addr} {n c : Nat} {xs : List α} (h : Has (T.sl e) W [.slice A n c] xs S)
    {B : Nat} {e' : TypeId} {A2 : Option Addr} {m c2 : Nat} {ys : List α} (hy : (T.sl e').R W B [.slice A2 m c2] ys)
    {L : Nat} (hL : L = n + m) (hb : L * bytes ≤ 140737488355328) (h63 : L ≤ 9223372036854775807) :
    ∃ A' c'' W' S', (Builtin.append_ #[t, t] ty #[.slice A n c, .slice A2 m c2]).run P W = .ok (.slice A' L c'') W' ∧ OnlyS S W W' ∧ Has (T.sl e) W' [.slice A' L c''] (xs ++ ys) S' ∧ ∀ b ∈ S', b ∈ S ∨ W.heap.size ≤ b := by
  obtain ⟨A3, c3, hv, h1, h2, h3, h4⟩ := hy
  injection hv with hv _
  injection hv with hA hn hc
  subst hA hn hc
  rcases Nat.eq_zero_or_pos ys.length with h0 | h0
  · have hys : ys = [] := List.eq_nil_of_length_eq_zero h0
    subst hys
    subst hL
    cases A2 with
    | none => exact ⟨A, c, W, S, run_append_nil_has hE h _, OnlyS.refl _ _, by simpa using h, fun b hb => .inl hb⟩
    | some ad =>
      obtain ⟨A', c'', W', S', k1, k2, k3, k4⟩ := run_append_set (P := P) (ty := ty) hE h (ad := ad) (m := 0) (c' := c2) (news := []) (ys := []) (Sy := []) ⟨rfl, rfl⟩ rfl (fun j u hu => by simp at hu) (by simp) (by simp) rfl hb h63
      exact ⟨A', c'', W', S', k1, k2, k3, fun b hb => by have := k4 b hb; simpa using this⟩
  · obtain ⟨g, off, rfl, hgB, h5⟩ := h4 h0
    obtain ⟨cs, hr, hl, hc⟩ := rows_of_flat (w' := W) hf (g := g) (off := off) ys 0 (fun i x hx => by
      obtain ⟨ec, hR, hcc⟩ := h5 i x hx
      exact ⟨ec, hR, fun j u hu => by rw [Nat.zero_add]; exact hcc j u hu⟩)
    obtain ⟨A', c'', W', S', k1, k2, k3, k4⟩ := run_append_set (P := P) (ty := ty) hE h (ad := ⟨g, off, none⟩) hr rfl (fun j u hu => by rw [Addr.add_lit]; simpa using hc j u hu) (by simp) (by simp) hL hb h63
    exact ⟨A', c'', W', S', k1, k2, k3, fun b hb => by have := k4 b hb; simpa using this⟩
theorem step_append_hasl {E : Prop} (hgd : o.guard = none) (s x : Operand) (hE : Elem P t e T bytes) (hf : Flat T) {W : World} {S : List Nat} {A : Option Addr} {n c : Nat} {xs : List α} (h : Has (T.sl e) W [.slice A n c] xs S)
    {B : Nat} {e' : TypeId} {A2 : Option Addr} {m c2 : Nat} {ys : List α} (hy : (T.sl e').R W B [.slice A2 m c2] ys)
    (ho : o.op = .call { callee := .builtin .append, args := #[s, x], argTypes := #[t, t] }) (hs : a.eval s = .slice A n c) (hx : a.eval x = .slice A2 m c2)
    {L : Nat} (hL : L = n + m) (hb : L * bytes ≤ 140737488355328) (h63 : L ≤ 9223372036854775807)
    (hK : ∀ A' c'' W' S', OnlyS S W W' → Has (T.sl e) W' [.slice A' L c''] (xs ++ ys) S' → (∀ b ∈ S', b ∈ S ∨ W.heap.size ≤ b) → K (a.put o.dst (.slice A' L c'')) W') : if Region.wanted o (yielded ops a.tmps) = true then Oper.wp P o a W K Q else E := by
  have hw : Region.wanted o (yielded ops a.tmps) = true := by simp [Region.wanted, hgd]
  rw [if_pos hw]
  obtain ⟨A', c'', W', S', hrun, hon, hF, hS'⟩ := run_append_hasl (P := P) (ty := o.type) hE hf h hy hL hb h63
  exact wp_of_run_append s x ho hs hx hrun (hK A' c'' W' S' hon hF hS')
theorem wpList_append_hasl (hgd : o.guard = none) (s x : Operand) (hE : Elem P t e T bytes) (hf : Flat T) {W : World} {S : List Nat} {A : Option Addr} {n c : Nat} {xs : List α} (h : Has (T.sl e) W [.slice A n c] xs S)
    {B : Nat} {e' : TypeId} {A2 : Option Addr} {m c2 : Nat} {ys : List α} (hy : (T.sl e').R W B [.slice A2 m c2] ys)
    (ho : o.op = .call { callee := .builtin .append, args := #[s, x], argTypes := #[t, t] }) (hs : a.eval s = .slice A n c) (hx : a.eval x = .slice A2 m c2)
    {L : Nat} (hL : L = n + m) (hb : L * bytes ≤ 140737488355328) (h63 : L ≤ 9223372036854775807)
    (hK : ∀ A' c'' W' S', OnlyS S W W' → Has (T.sl e) W' [.slice A' L c''] (xs ++ ys) S' → (∀ b ∈ S', b ∈ S ∨ W.heap.size ≤ b) → wpList P ops Q rest (a.put o.dst (.slice A' L c'')) W') : wpList P ops Q (o :: rest) a W :=
  wpList_plain hgd fun K hKK => by
    obtain ⟨A', c'', W', S', hrun, hon, hF, hS'⟩ := run_append_hasl (P := P) (ty := o.type) hE hf h hy hL hb h63
    exact wp_of_run_append s x ho hs hx hrun (hKK _ _ (hK A' c'' W' S' hon hF hS'))
end
theorem box1 {W : World} {g : Nat} {a : Value} {e : TypeId} (h : W.heap[g]? = some (.cells #[a] e (0, 0))) : W.cell? ⟨g, 0, none⟩ = some a ∧ W.frozen? ⟨g, 0, none⟩ = false := by
  refine ⟨?_, by simp [World.frozen?, h]⟩
  rw [cell_of_row W g _ _ _ (0, 0) h]
  rfl
theorem set1 {W : World} {g : Nat} {p : Value} {e : TypeId} (h : W.heap[g]? = some (.cells #[p] e (0, 0))) (a : Value) : (W.setCell ⟨g, 0, none⟩ a).heap[g]? = some (.cells #[a] e (0, 0)) ∧ OnlyS [g] W (W.setCell ⟨g, 0, none⟩ a) :=
  ⟨heap_setCell_at h 0 a, (OnlyS.refl _ _).setCell (p := ⟨g, 0, none⟩) (by simp) a⟩
/-- one list of a list of lists -/
theorem lists_at {α : Type} {T : Ty α} {e e' : TypeId} {w : World} {B : Nat} {A : Option Addr} {n c : Nat} {xs : List (List α)} (h : ((T.sl e).sl e').R w B [.slice A n c] xs) {k : Nat} (hk : k < xs.length) :
    ∃ g off x A' c', A = some ⟨g, off, none⟩ ∧ g < B ∧ xs[k]? = some x ∧ (T.sl e).R w B [.slice A' x.length c'] x ∧ w.cell? ⟨g, off + k, none⟩ = some (.slice A' x.length c') := by
  obtain ⟨g, off, x, ec, h1, h2, h3, h4, h5⟩ := elem_at h hk
  have h6 := h4
  obtain ⟨A', c', rfl, _⟩ := h6
  have h7 := h5 0 _ rfl
  simp only [show (T.sl e).size = 1 from rfl, Nat.mul_one, Nat.add_zero] at h7
  exact ⟨g, off, x, A', c', h1, h2, h3, h4, h7⟩
end Go.Proofs.YtdlkoffandhclaaGreatDoor
namespace Go.Proofs.YtdlkoffandhclaaGreatDoor
open Go.RowKit
def byteAt (xs : List UInt8) (i : Nat) : Nat := ((xs[(i * 5 + 1) % xs.length]?).getD 0).toNat
theorem byteAt_lt (xs : List UInt8) (i : Nat) : byteAt xs i < 256 := UInt8.toNat_lt _
set_option maxRecDepth 100000 in
set_option maxHeartbeats 2000000 in
theorem at_l {xs : List UInt8} {w : World} {A : Option Addr} {c : Nat} (hx : (byteT.sl 5).R w w.heap.size [.slice A xs.length c] xs) (i : Nat) (hi : i ≤ 1000000000) (hl : xs.length ≤ 1099511627776) :
    Calls Tryz.prog 25 #[.slice A xs.length c, .int .i64 (i : Int)] w fun e w' => e = .returned (.int .i64 (byteAt xs i : Int)) ∧ Gro w w' := by
  by_cases h0 : xs.length = 0
  · have hb : (((xs.length : Nat) : Int) == 0) = true := by simp [h0]
    have HV := Lib.hid (show (0 : Int) = (byteAt xs i : Int) from by
      have : xs = [] := List.eq_nil_of_length_eq_zero h0
      subst this
      rfl)
    clear h0
    go_enter Tryz.func25, Tryz.ntmps25
    go_wp2_with (fail)
    go_ret
    exact ⟨ret_int HV.out, Gro.refl _⟩
  · have hb : (((xs.length : Nat) : Int) == 0) = false := by simp only [beq_eq_false_iff_ne]; omega
    obtain ⟨n, hn⟩ : ∃ n, (i * 5 + 1) % xs.length = n := ⟨_, rfl⟩
    have hnl : n < xs.length := by rw [← hn]; exact Nat.mod_lt _ (by omega)
    obtain ⟨g, off, x, ec, rfl, hgb, hxk, rfl, hcell⟩ := elem_at hx (k := n) hnl
    have hcx := hcell 0 _ rfl
    simp only [show byteT.size = 1 from rfl, Nat.mul_one, Nat.add_zero] at hcx
    have hw1 : IntKind.i64.wrap ((i : Int) * 5) = (i : Int) * 5 := IntWalk.i64_in _ ⟨by omega, by omega⟩
    have hw2 : IntKind.i64.wrap ((i : Int) * 5 + 1) = (i : Int) * 5 + 1 := IntWalk.i64_in _ ⟨by omega, by omega⟩
    have hm : Int.tmod ((i : Int) * 5 + 1) (xs.length : Int) = (n : Int) := by
      rw [Int.tmod_eq_emod_of_nonneg (by omega), show (i : Int) * 5 + 1 = ((i * 5 + 1 : Nat) : Int) from by omega, ← Int.natCast_emod, hn]
    have hz : ¬ ((xs.length : Nat) : Int) = 0 := by omega
    have hni : (n : Int) < (xs.length : Int) := by omega
    have hn0 : (0 : Int) ≤ (n : Int) := by omega
    have HV := Lib.hid (show ((x.toNat : Nat) : Int) = (byteAt xs i : Int) from by
      unfold byteAt
      rw [hn, hxk]
      rfl)
    have hxb := x.toNat_lt
    clear hcell hxk hx h0 hn
    go_enter Tryz.func25, Tryz.ntmps25
    go_wp2_with (fail)
    go_ret
    exact ⟨ret_int HV.out, (by repeat (first | with_reducible exact Gro.refl _ | with_reducible exact Gro.refl_drew _ _ _ | with_reducible exact Gro.refl_drewN _ _ _ _ | assumption | with_reducible apply Gro.more | with_reducible apply Gro.alloc | with_reducible apply Gro.drew | with_reducible apply Gro.drewN))⟩
theorem at_z {xs : List UInt8} {w : World} {A : Option Addr} {c : Nat} {z : Int} {b : Nat} (hx : (byteT.sl 5).R w w.heap.size [.slice A xs.length c] xs) (i : Nat) (hz : z = (i : Int)) (hv : byteAt xs i = b) (hi : i ≤ 1000000000) (hl : xs.length ≤ 1099511627776) :
    Calls Tryz.prog 25 #[.slice A xs.length c, .int .i64 z] w fun e w' => e = .returned (.int .i64 (b : Int)) ∧ Gro w w' := by
  subst hz hv
  exact at_l hx i hi hl
end Go.Proofs.YtdlkoffandhclaaGreatDoor
namespace Go.Proofs.YtdlkoffandhclaaGreatDoor
open Go.RowKit
theorem frameB_no59 {f : DFrame} (hf : frameOk f = true) : (59 : UInt8) ∉ frameB f := fun k => by
  unfold frameB at k
  rcases List.mem_append.1 k with k | k
  · have := frameOk_name hf _ k
    simp at this
  · rcases List.mem_cons.1 k with k | k
    · exact absurd k (by decide)
    · exact no59 hf k
theorem valU_dec {n : Nat} (hn : n < 100) : valU (Lib.decDigits n) = n := by
  by_cases h1 : n < 10
  · rw [Lib.decDigits_one h1]
    simp only [valU, List.foldl_cons, List.foldl_nil, UInt8.toNat_ofNat']
    omega
  · rw [Lib.decDigits_two (by omega) hn]
    simp only [valU, List.foldl_cons, List.foldl_nil, UInt8.toNat_ofNat']
    omega
theorem parseU_back {n : Nat} (hn : n < 100) : parseU (Lib.decDigits n) = some n := by
  have h := parseU_ok (l := Lib.decDigits n) (by
    by_cases h1 : n < 10
    · rw [Lib.decDigits_one h1]; simp
    · rw [Lib.decDigits_two (by omega) hn]; simp) (List.all_eq_true.2 fun b hb => isDig_iff.2 (dec_bytes hn b hb)) (by rw [valU_dec hn]; omega) (by rw [valU_dec hn])
  rw [valU_dec hn] at h
  exact h
theorem part_back {f : DFrame} (hf : frameOk f = true) : parsePart (frameB f) = some f := by
  have n1 : (58 : UInt8) ∉ f.Name.data.toList := fun k => by have := frameOk_name hf _ k; simp at this
  have a := frameOk_line hf
  have n2 : (58 : UInt8) ∉ Lib.decDigits f.Line.toNat := fun k => by
    have := dec_bytes (by omega) _ k
    simp at this
  unfold parsePart frameB
  rw [cutA_at n1, cutA_no n2, List.nil_append, List.nil_append]
  simp only
  rw [parseU_back (by omega)]
  simp only [Option.map_some, Option.some.injEq]
  cases f
  simp only at a ⊢
  congr 1
  omega
theorem parseL_back : ∀ {l acc : List DFrame}, l.all frameOk = true → l ≠ [] → parseL (cutA 59 [] (joinF l)) acc = some (acc ++ l)
  | [], _, _, h => absurd rfl h
  | [f], acc, h, _ => by
    simp only [List.all_cons, List.all_nil, Bool.and_true] at h
    rw [joinF_one, cutA_no (frameB_no59 h), List.nil_append, parseL_some (part_back h), parseL]
  | f :: g :: l, acc, h, _ => by
    rw [List.all_cons, Bool.and_eq_true] at h
    rw [joinF_cons2, cutA_at (frameB_no59 h.1), List.nil_append, parseL_some (part_back h.1), parseL_back h.2 (by simp)]
    simp
theorem joinF_pos {l : List DFrame} (h : l ≠ []) : joinF l ≠ [] := by
  cases l with
  | nil => exact absurd rfl h
  | cons f l =>
    cases l with
    | nil => rw [joinF_one]; simp [frameB]
    | cons g l => rw [joinF_cons2]; simp
theorem parse_back {l : List DFrame} (h : l.all frameOk = true) (hn : l ≠ []) : parseF (fmtF l) = some l := by
  have hf : fmtF l = ⟨(joinF l).toArray⟩ := by unfold fmtF; rw [if_pos h]
  unfold parseF
  rw [hf]
  simp only
  rw [parseL_back h hn, List.nil_append]
  simp only
  rw [if_neg]
  rintro (h1 | h1)
  · have := joinF_pos hn
    have h2 : (joinF l).length = 0 := by simpa [ByteArray.size] using h1
    exact this (List.length_eq_zero_iff.1 h2)
  · exact h1 hf
theorem dec_last {n : Nat} (hn : n < 100) : ∃ b, (Lib.decDigits n).getLast? = some b ∧ b ≠ 59 := by
  have hb : ∃ b, (Lib.decDigits n).getLast? = some b ∧ b ∈ Lib.decDigits n := by
    cases h : Lib.decDigits n with
    | nil =>
      exfalso
      by_cases h1 : n < 10
      · rw [Lib.decDigits_one h1] at h; cases h
      · rw [Lib.decDigits_two (by omega) hn] at h; cases h
    | cons a l => exact ⟨_, List.getLast?_eq_some_getLast (by simp), List.getLast_mem _⟩
  obtain ⟨b, h1, h2⟩ := hb
  refine ⟨b, h1, ?_⟩
  rintro rfl
  have := dec_bytes hn _ h2
  simp at this
theorem frameB_last {f : DFrame} (hf : frameOk f = true) (x : List UInt8) : ∃ b, (x ++ frameB f).getLast? = some b ∧ b ≠ 59 := by
  have a := frameOk_line hf
  obtain ⟨b, h1, h2⟩ := dec_last (n := f.Line.toNat) (by omega)
  refine ⟨b, ?_, h2⟩
  unfold frameB
  rw [← List.append_assoc, List.append_cons, List.getLast?_append, h1]
  rfl
theorem joinF_last : ∀ {l : List DFrame} (x : List UInt8), l.all frameOk = true → l ≠ [] → ∃ b, (x ++ joinF l).getLast? = some b ∧ b ≠ 59
  | [], _, _, h => absurd rfl h
  | [f], x, h, _ => by
    simp only [List.all_cons, List.all_nil, Bool.and_true] at h
    rw [joinF_one]
    exact frameB_last h x
  | f :: g :: l, x, h, _ => by
    rw [List.all_cons, Bool.and_eq_true] at h
    rw [joinF_cons2, ← List.append_assoc, List.append_cons]
    exact joinF_last _ h.2 (by simp)
theorem parse_more {l : List DFrame} (h : l.all frameOk = true) : parseF (fmtF l ++ ⟨#[59]⟩) = none := by
  cases hp : parseF (fmtF l ++ ⟨#[59]⟩) with
  | none => rfl
  | some fs =>
    exfalso
    obtain ⟨h1, h2⟩ := parseF_fmt hp
    have h3 : fs.all frameOk = true ∧ fs ≠ [] := by
      have h8 : (fmtF fs).size ≠ 0 := by rw [h1]; exact h2
      unfold fmtF at h8
      split at h8
      · rename_i k
        refine ⟨k, fun e => ?_⟩
        subst e
        exact h8 rfl
      · exact absurd rfl h8
    obtain ⟨b, h4, h5⟩ := joinF_last [] h3.1 h3.2
    have h6 := congrArg (fun s : ByteArray => s.data.toList.getLast?) h1
    simp only [ByteArray.data_append, Array.toList_append] at h6
    have h7 : (fmtF fs).data.toList = joinF fs := by unfold fmtF; rw [if_pos h3.1]
    rw [h7, List.getLast?_append] at h6
    rw [List.nil_append] at h4
    rw [h4] at h6
    simp at h6
    exact h5 h6
theorem parse_none : parseF ⟨#[]⟩ = none := by
  unfold parseF
  split
  · rw [if_pos (.inl rfl)]
  · rfl
theorem fmt_main7 : fmtF [⟨⟨#[109, 97, 105, 110]⟩, 7⟩] = ⟨#[109, 97, 105, 110, 58, 55]⟩ := by
  have h : frameOk ⟨⟨#[109, 97, 105, 110]⟩, 7⟩ = true := by decide
  unfold fmtF
  rw [if_pos (by simp [h]), joinF_one]
  unfold frameB
  rw [show (7 : Int).toNat = 7 from rfl, Lib.decDigits_one (by decide)]
  rfl
end Go.Proofs.YtdlkoffandhclaaGreatDoor
namespace Go.Proofs.YtdlkoffandhclaaGreatDoor
open Go.RowKit
theorem countsOk_iff : ∀ {L : Int} {cs : List Int}, 0 ≤ L → (countsOk L cs = true ↔ (∀ c ∈ cs, 0 ≤ c) ∧ cs.sum ≤ L)
  | L, [], hL => by simp [countsOk, hL]
  | L, c :: cs, hL => by
    simp only [countsOk, Bool.and_eq_true, btw_iff, List.sum_cons, List.mem_cons, forall_eq_or_imp]
    constructor
    · rintro ⟨⟨h1, h2⟩, h3⟩
      have := (countsOk_iff (by omega)).1 h3
      exact ⟨⟨h1, this.1⟩, by omega⟩
    · rintro ⟨⟨h1, h2⟩, h3⟩
      have hs : 0 ≤ cs.sum := by
        clear h3
        induction cs with
        | nil => simp
        | cons a cs ih =>
          have := ih fun c hc => h2 c (List.mem_cons_of_mem _ hc)
          have := h2 a List.mem_cons_self
          simp only [List.sum_cons]
          omega
      exact ⟨⟨h1, by omega⟩, (countsOk_iff (by omega)).2 ⟨h2, by omega⟩⟩
theorem addStack_yes {p : DProfile} {l : List DFrame} {n : Int} (hp : profileOk p = true) (hn : 0 ≤ n) (hl : l ≠ []) (ha : l.all frameOk = true) (ht : totalOf p + n ≤ 1000000000000) : ∃ q, addStack p l n = (q, true) := by
  have hpp := pOk_parts hp
  have htp : 0 ≤ totalOf p ∧ totalOf p = p.Counts.sum := by
    have := countsOk_take hpp.2.2 (by omega) p.Counts.length
    rw [List.take_length] at this
    unfold totalOf
    rw [if_pos hp]
    exact ⟨this.1, rfl⟩
  have hi : internStack p.Stacks l = (⟨(internL p.Stacks.Nodes (-1) l).1⟩, (internL p.Stacks.Nodes (-1) l).2) := by
    unfold internStack
    rw [if_pos]
    simp only [Bool.and_eq_true, Bool.not_eq_true', List.isEmpty_eq_false_iff]
    exact ⟨hpp.1, hl, ha⟩
  obtain ⟨r1, ⟨ms, r2⟩, r3, r4, r5, r6⟩ := intern_path l p.Stacks.Nodes (-1) hpp.1 (by omega) (by omega) ha
  rw [pathI_neg p.Stacks.Nodes (show (-1 : Int) < 0 by omega), List.nil_append] at r5
  have h0 : 0 ≤ (internL p.Stacks.Nodes (-1) l).2 := by
    apply Decidable.byContradiction
    intro hc
    rw [pathI_neg _ (by omega)] at r5
    exact hl r5.symm
  have hle : p.Counts.length ≤ (internL p.Stacks.Nodes (-1) l).1.length := by rw [r2, List.length_append]; omega
  have hnn : ∀ c ∈ p.Counts, 0 ≤ c := ((countsOk_iff (by omega)).1 hpp.2.2).1
  have hg := padTo_get (cs := p.Counts) hle (show (internL p.Stacks.Nodes (-1) l).2.toNat < _ by omega)
  have hgn : 0 ≤ (p.Counts[(internL p.Stacks.Nodes (-1) l).2.toNat]?).getD 0 := by
    cases hc : p.Counts[(internL p.Stacks.Nodes (-1) l).2.toNat]? with
    | none => exact Int.le_refl _
    | some c => exact hnn c (List.mem_of_getElem? hc)
  refine ⟨addTo p (internStack p.Stacks l).1 (internStack p.Stacks l).2.toNat n, ?_⟩
  unfold addStack
  rw [if_pos (by rw [hp, btw_mk hn (by omega)]; rfl), hi, if_pos h0, if_pos]
  unfold addTo profileOk
  simp only [Bool.and_eq_true, decide_eq_true_eq, List.length_set]
  rw [padTo_len' hle]
  refine ⟨r1, rfl, (countsOk_iff (by omega)).2 ⟨?_, ?_⟩⟩
  · rw [hg]
    intro c hc
    rcases List.mem_or_eq_of_mem_set hc with h1 | h1
    · unfold padTo at h1
      rcases List.mem_append.1 h1 with h1 | h1
      · exact hnn c h1
      · rw [(List.mem_replicate.1 h1).2]
        exact Int.le_refl _
    · rw [h1]
      simp only [Option.getD_some]
      omega
  · rw [hg, sum_set _ _ _ _ hg]
    unfold padTo
    rw [List.sum_append, sum_zeros]
    simp only [Option.getD_some]
    omega
theorem total_bd {p : DProfile} (h : profileOk p = true) : 0 ≤ totalOf p ∧ totalOf p ≤ 1000000000000 := by
  have hpp := pOk_parts h
  have := countsOk_take hpp.2.2 (by omega) p.Counts.length
  rw [List.take_length] at this
  unfold totalOf
  rw [if_pos h]
  exact this
theorem countOf_nonneg {p : DProfile} (m : List DFrame) : 0 ≤ countOf p m := by
  unfold countOf
  split
  · rename_i hc
    have hnn : ∀ c ∈ p.Counts, 0 ≤ c := ((countsOk_iff (by omega)).1 (pOk_parts hc.2).2.2).1
    cases hx : p.Counts[(findStack p.Stacks m).toNat]? with
    | none => exact Int.le_refl _
    | some c => exact hnn c (List.mem_of_getElem? hx)
  · exact Int.le_refl _
/-- counts of a text among entries -/
def cntT (l : List DEntry) (s : ByteArray) : Int := (l.map fun e => if e.Stack = s then e.Count else 0).sum
def sumE (l : List DEntry) : Int := (l.map DEntry.Count).sum
/-- an entry of a stack that can be written -/
def entOk (e : DEntry) : Prop := ∃ s : List DFrame, s ≠ [] ∧ s.all frameOk = true ∧ e.Stack = fmtF s ∧ 0 ≤ e.Count
theorem stack_ok {p : DProfile} {m : List DFrame} (h : countOf p m ≠ 0) : m ≠ [] ∧ m.all frameOk = true := by
  obtain ⟨hp, k, hk, rfl⟩ := countOf_pos h
  exact ⟨path_ne (pOk_parts hp).1 hk, path_ok (pOk_parts hp).1 hk⟩
theorem profL_yes : ∀ {l : List DEntry} {p : DProfile}, profileOk p = true → (∀ e ∈ l, entOk e) → totalOf p + sumE l ≤ 1000000000000 →
    ∃ q, profL l p = some q ∧ profileOk q = true ∧ totalOf q = totalOf p + sumE l ∧ ∀ m, m ≠ [] → m.all frameOk = true → countOf q m = countOf p m + cntT l (fmtF m)
  | [], p, hp, _, _ => ⟨p, rfl, hp, by simp [sumE], fun m _ _ => by simp [cntT]⟩
  | e :: l, p, hp, he, ht => by
    obtain ⟨s, h1, h2, h3, h4⟩ := he e List.mem_cons_self
    have hsl : 0 ≤ sumE l := by
      have : ∀ e ∈ l, 0 ≤ e.Count := fun e' h' => by obtain ⟨_, _, _, _, h5⟩ := he e' (List.mem_cons_of_mem _ h'); exact h5
      clear ht he
      induction l with
      | nil => simp [sumE]
      | cons a l ih =>
        have := ih fun c hc => this c (List.mem_cons_of_mem _ hc)
        have := this
        have h6 := ‹∀ e ∈ a :: l, 0 ≤ e.Count› a List.mem_cons_self
        simp only [sumE, List.map_cons, List.sum_cons] at this ⊢
        omega
    have hse : sumE (e :: l) = e.Count + sumE l := by simp [sumE]
    obtain ⟨r, hr⟩ := addStack_yes hp h4 h1 h2 (by omega)
    have hpr : (parseR e.Stack) = (s, true) := by
      unfold parseR
      rw [h3, parse_back h2 h1]
    have hst : stepP p e = some r := by
      unfold stepP
      rw [hpr]
      simp only
      rw [hr]
      rfl
    have hrr := (addStack_spec hr).2.1
    have htr := addStack_total hr
    obtain ⟨q, hq1, hq2, hq3, hq4⟩ := profL_yes hrr (fun e' h' => he e' (List.mem_cons_of_mem _ h')) (by omega)
    refine ⟨q, by rw [profL_some hst]; exact hq1, hq2, by omega, fun m hm hm2 => ?_⟩
    rw [hq4 m hm hm2, addStack_count hr m]
    have hmm : (m = s) ↔ e.Stack = fmtF m := by
      rw [h3]
      constructor
      · rintro rfl; rfl
      · intro hh; exact (fmtF_inj h2 hm2 h1 hm hh).symm
    simp only [cntT, List.map_cons, List.sum_cons, hmm]
    omega
theorem ents_entOk {p : DProfile} {e : DEntry} (he : e ∈ entriesOf p) : entOk e := by
  by_cases hp : profileOk p = true
  · obtain ⟨k, hk, h1, h2, h3⟩ := (ents_iff hp e).1 he
    exact ⟨path p.Stacks.Nodes k, path_ne (pOk_parts hp).1 hk, path_ok (pOk_parts hp).1 hk, h1, by rw [h2]; exact countOf_nonneg _⟩
  · unfold entriesOf at he
    rw [if_neg hp] at he
    cases he
theorem sum_perm {l1 l2 : List Int} (h : l1.Perm l2) : l1.sum = l2.sum := by
  induction h with
  | nil => rfl
  | cons x _ ih => simp only [List.sum_cons, ih]
  | swap x y l => simp only [List.sum_cons]; omega
  | trans _ _ h1 h2 => rw [h1, h2]
theorem entTake_sum (p : DProfile) : ∀ n, n ≤ p.Counts.length → ((entTake p n).map DEntry.Count).sum = (p.Counts.take n).sum
  | 0, _ => by simp [entTake]
  | n + 1, h => by
    obtain ⟨c, hc⟩ : ∃ c, p.Counts[n]? = some c := ⟨_, List.getElem?_eq_getElem (by omega)⟩
    have ih := entTake_sum p n (by omega)
    rw [List.take_add_one, hc, List.sum_append]
    by_cases h0 : c = 0
    · subst h0
      rw [entTake_zero hc, ih]
      simp
    · rw [entTake_snoc hc h0, List.map_append, List.sum_append, ih]
      simp
theorem sumE_ents {p : DProfile} (h : profileOk p = true) : sumE (entriesOf p) = totalOf p := by
  unfold sumE entriesOf totalOf
  rw [if_pos h, if_pos h, sum_perm ((foldl_insE_perm (entTake p p.Counts.length) []).map DEntry.Count), List.nil_append, entTake_sum p _ (Nat.le_refl _), List.take_length]
theorem cntT_one {l : List DEntry} {e : DEntry} (hn : (l.map fun e => bl e.Stack).Nodup) (he : e ∈ l) : cntT l e.Stack = e.Count := by
  induction l with
  | nil => cases he
  | cons a l ih =>
    rw [List.map_cons, List.nodup_cons] at hn
    simp only [cntT, List.map_cons, List.sum_cons]
    have hz : ∀ s : ByteArray, (∀ x ∈ l, x.Stack ≠ s) → (l.map fun e => if e.Stack = s then e.Count else 0).sum = 0 := by
      intro s hs
      clear ih hn he
      induction l with
      | nil => rfl
      | cons b l ih2 =>
        simp only [List.map_cons, List.sum_cons]
        rw [if_neg (hs b List.mem_cons_self), ih2 fun x hx => hs x (List.mem_cons_of_mem _ hx)]
        rfl
    rcases List.mem_cons.1 he with rfl | he
    · rw [if_pos rfl, hz _ fun x hx e' => hn.1 (by rw [← e']; exact List.mem_map_of_mem (f := fun e => bl e.Stack) hx)]
      omega
    · rw [if_neg fun e' => hn.1 (by rw [e']; exact List.mem_map_of_mem (f := fun e => bl e.Stack) he)]
      have := ih hn.2 he
      unfold cntT at this
      omega
theorem cntT_none {l : List DEntry} {s : ByteArray} (h : ∀ e ∈ l, e.Stack ≠ s) : cntT l s = 0 := by
  unfold cntT
  induction l with
  | nil => rfl
  | cons b l ih =>
    simp only [List.map_cons, List.sum_cons]
    rw [if_neg (h b List.mem_cons_self), ih fun x hx => h x (List.mem_cons_of_mem _ hx)]
    rfl
theorem cntT_ents {p : DProfile} (h : profileOk p = true) {m : List DFrame} (hm : m ≠ []) (ha : m.all frameOk = true) : cntT (entriesOf p) (fmtF m) = countOf p m := by
  by_cases hc : countOf p m = 0
  · rw [hc]
    refine cntT_none fun e he hs => ?_
    obtain ⟨k, hk, h1, h2, h3⟩ := (ents_iff h e).1 he
    have := fmtF_inj (path_ok (pOk_parts h).1 hk) ha (path_ne (pOk_parts h).1 hk) hm (by rw [← h1, hs])
    rw [this, hc] at h2
    exact h3 h2
  · obtain ⟨_, k, hk, hpk⟩ := countOf_pos hc
    have he : (⟨fmtF m, countOf p m⟩ : DEntry) ∈ entriesOf p := (ents_iff h _).2 ⟨k, hk, by rw [hpk], by rw [hpk], hc⟩
    exact cntT_one (ents_nodup2 h) he
theorem cntT_app (a b : List DEntry) (s : ByteArray) : cntT (a ++ b) s = cntT a s + cntT b s := by simp [cntT]
theorem sumE_app (a b : List DEntry) : sumE (a ++ b) = sumE a + sumE b := by simp [sumE]
theorem countOf_empty (m : List DFrame) : countOf emptyP m = 0 := countOf_none fun _ hk => absurd hk (Nat.not_lt_zero _)
theorem total_empty : totalOf emptyP = 0 := by
  unfold totalOf
  rw [if_pos emptyP_ok]
  rfl
/-- a profile made of entries -/
theorem profR_yes2 {l : List DEntry} (he : ∀ e ∈ l, entOk e) (ht : sumE l ≤ 1000000000000) :
    (profR l).2 = true ∧ profileOk (profR l).1 = true ∧ totalOf (profR l).1 = sumE l ∧ ∀ m, m ≠ [] → m.all frameOk = true → countOf (profR l).1 m = cntT l (fmtF m) := by
  obtain ⟨q, h1, h2, h3, h4⟩ := profL_yes emptyP_ok he (by rw [total_empty]; omega)
  rw [profR_yes h1]
  refine ⟨rfl, h2, by rw [h3, total_empty]; omega, fun m hm ha => by rw [h4 m hm ha, countOf_empty]; omega⟩
theorem count_ext {p q : DProfile} (h : ∀ m, m ≠ [] → m.all frameOk = true → countOf p m = countOf q m) (m : List DFrame) : countOf p m = countOf q m := by
  by_cases h1 : m ≠ [] ∧ m.all frameOk = true
  · exact h m h1.1 h1.2
  · have h2 : countOf p m = 0 := Decidable.byContradiction fun hc => h1 (stack_ok hc)
    have h3 : countOf q m = 0 := Decidable.byContradiction fun hc => h1 (stack_ok hc)
    rw [h2, h3]
/-- a profile is the one of its entries -/
theorem back_ents {p : DProfile} (h : profileOk p = true) : (profR (entriesOf p)).2 = true ∧ profileOk (profR (entriesOf p)).1 = true ∧ entriesOf (profR (entriesOf p)).1 = entriesOf p ∧ totalOf (profR (entriesOf p)).1 = totalOf p := by
  have hb := total_bd h
  obtain ⟨h1, h2, h3, h4⟩ := profR_yes2 (fun e he => ents_entOk he) (by rw [sumE_ents h]; exact hb.2)
  refine ⟨h1, h2, ents_ext h2 h (count_ext fun m hm ha => by rw [h4 m hm ha, cntT_ents h hm ha]), by rw [h3, sumE_ents h]⟩
theorem merge_spec {p q : DProfile} (hp : profileOk p = true) (hq : profileOk q = true) (ht : totalOf p + totalOf q ≤ 1000000000000) :
    (mergeP p q).2 = true ∧ profileOk (mergeP p q).1 = true ∧ totalOf (mergeP p q).1 = totalOf p + totalOf q ∧ ∀ m, countOf (mergeP p q).1 m = countOf p m + countOf q m := by
  have hm : mergeP p q = profR (entriesOf p ++ entriesOf q) := by simp [mergeP, hp, hq]
  rw [hm]
  obtain ⟨h1, h2, h3, h4⟩ := profR_yes2 (l := entriesOf p ++ entriesOf q) (fun e he => (List.mem_append.1 he).elim ents_entOk ents_entOk) (by rw [sumE_app, sumE_ents hp, sumE_ents hq]; exact ht)
  refine ⟨h1, h2, by rw [h3, sumE_app, sumE_ents hp, sumE_ents hq], fun m => ?_⟩
  by_cases hmm : m ≠ [] ∧ m.all frameOk = true
  · rw [h4 m hmm.1 hmm.2, cntT_app, cntT_ents hp hmm.1 hmm.2, cntT_ents hq hmm.1 hmm.2]
  · have hz : ∀ r : DProfile, countOf r m = 0 := fun r => Decidable.byContradiction fun hc => hmm (stack_ok hc)
    rw [hz, hz, hz]
    rfl
theorem ents_strict {p : DProfile} (h : profileOk p = true) {k : Nat} {x y : DEntry} (hx : (entriesOf p)[k]? = some x) (hy : (entriesOf p)[k + 1]? = some y) : bl x.Stack < bl y.Stack := by
  have h1 := ents_le (p := p)
  have h2 := ents_nodup2 h
  obtain ⟨hk, hx⟩ := List.getElem?_eq_some_iff.1 hx
  obtain ⟨hk2, hy⟩ := List.getElem?_eq_some_iff.1 hy
  have h3 := List.pairwise_iff_getElem.1 h1 k (k + 1) hk hk2 (by omega)
  rw [hx, hy] at h3
  have h4 : bl x.Stack ≠ bl y.Stack := by
    intro e
    have h5 := List.pairwise_iff_getElem.1 h2 k (k + 1) (by simpa using hk) (by simpa using hk2) (by omega)
    simp only [List.getElem_map, hx, hy] at h5
    exact h5 e
  exact bl_lt_of (bl_le_of_not h3) h4
end Go.Proofs.YtdlkoffandhclaaGreatDoor
namespace Go.Proofs.YtdlkoffandhclaaGreatDoor
open Go.RowKit
def mergeAllL : List DProfile → DProfile → Option DProfile
  | [], p => some p
  | x :: l, p => if (mergeP p x).2 then mergeAllL l (mergeP p x).1 else none
def mergeAllP (l : List DProfile) : DProfile × Bool := match mergeAllL l emptyP with
  | some p => (p, true)
  | none => (emptyP, false)
theorem mergeAllP_bad {l : List DProfile} (h : mergeAllL l emptyP = none) : mergeAllP l = (emptyP, false) := by unfold mergeAllP; rw [h]
theorem mergeAllP_yes {l : List DProfile} {p : DProfile} (h : mergeAllL l emptyP = some p) : mergeAllP l = (p, true) := by unfold mergeAllP; rw [h]
theorem mergeAllL_yes {l : List DProfile} {x p q : DProfile} (h : mergeP p x = (q, true)) : mergeAllL (x :: l) p = mergeAllL l q := by rw [mergeAllL, h]; rfl
theorem mergeAllL_no {l : List DProfile} {x p q : DProfile} (h : mergeP p x = (q, false)) : mergeAllL (x :: l) p = none := by rw [mergeAllL, h]; rfl
theorem szP_nodes (p : DProfile) : p.Stacks.Nodes.length ≤ szProfile p := by
  unfold szProfile szStacks szL
  omega
theorem mrg_bd {p x : DProfile} (hp : profileOk p = true) (h : 3 * p.Stacks.Nodes.length + szProfile x ≤ 1048576) : p.Stacks.Nodes.length ≤ 16777216 ∧ x.Stacks.Nodes.length ≤ 16777216 ∧ frSum (entriesOf p ++ entriesOf x) ≤ 500000000000 := by
  have h1 := szP_nodes x
  refine ⟨by omega, by omega, ?_⟩
  rw [frSum_app]
  have h2 := frSum_ents p
  have h3 := frSum_small (p := x) (by omega)
  have h4 := sq_le (n := p.Stacks.Nodes.length) (m := 350000) (by omega)
  omega
theorem mrg_ok {p x q : DProfile} (h : mergeP p x = (q, true)) : profileOk q = true ∧ 3 * q.Stacks.Nodes.length ≤ 3 * p.Stacks.Nodes.length + szProfile x := by
  have hn := mergeP_nodes p x
  rw [h] at hn
  simp only at hn
  unfold mergeP at h
  split at h
  · rename_i hk
    simp only [Bool.and_eq_true] at hk
    have h3 := prof_three hk.2
    refine ⟨?_, by omega⟩
    cases hr : profL (entriesOf p ++ entriesOf x) emptyP with
    | none => rw [profR_bad hr] at h; simp at h
    | some r =>
      rw [profR_yes hr] at h
      simp only [Prod.mk.injEq, and_true] at h
      rw [← h]
      exact (profL_ok emptyP_ok hr).1
  · simp at h
theorem mergeAllL_nodes : ∀ {l : List DProfile} {p q : DProfile}, mergeAllL l p = some q → profileOk p = true → profileOk q = true ∧ 3 * q.Stacks.Nodes.length ≤ 3 * p.Stacks.Nodes.length + (l.map szProfile).sum
  | [], p, q, h, hp => by
    simp only [mergeAllL, Option.some.injEq] at h
    subst h
    exact ⟨hp, by simp⟩
  | x :: l, p, q, h, hp => by
    obtain ⟨r, ok, hr⟩ : ∃ r ok, mergeP p x = (r, ok) := ⟨_, _, rfl⟩
    cases ok with
    | false => rw [mergeAllL_no hr] at h; cases h
    | true =>
      rw [mergeAllL_yes hr] at h
      have h1 := mrg_ok hr
      have h2 := mergeAllL_nodes h h1.1
      simp only [List.map_cons, List.sum_cons]
      exact ⟨h2.1, by omega⟩
theorem mergeAllP_len (l : List DProfile) : 3 * (mergeAllP l).1.Stacks.Nodes.length ≤ (l.map szProfile).sum ∧ (mergeAllP l).1.Counts.length = (mergeAllP l).1.Stacks.Nodes.length := by
  cases h : mergeAllL l emptyP with
  | none =>
    rw [mergeAllP_bad h]
    exact ⟨Nat.zero_le _, rfl⟩
  | some q =>
    rw [mergeAllP_yes h]
    have h1 := mergeAllL_nodes h emptyP_ok
    have h2 : emptyP.Stacks.Nodes.length = 0 := rfl
    exact ⟨by simp only; omega, pOk_len h1.1⟩
end Go.Proofs.YtdlkoffandhclaaGreatDoor
namespace Go.Proofs.YtdlkoffandhclaaGreatDoor
open Go.RowKit
theorem cntT_scl (n : Int) (l : List DEntry) (s : ByteArray) : cntT (l.map (sclE n)) s = cntT l s * n := by
  induction l with
  | nil => simp [cntT]
  | cons e l ih =>
    simp only [cntT, List.map_cons, List.sum_cons] at ih ⊢
    rw [ih, Int.add_mul]
    congr 1
    by_cases h : e.Stack = s
    · rw [if_pos (show (sclE n e).Stack = s from h), if_pos h]
      rfl
    · rw [if_neg (show ¬ (sclE n e).Stack = s from h), if_neg h]
      omega
theorem sumE_scl (n : Int) (l : List DEntry) : sumE (l.map (sclE n)) = sumE l * n := by
  induction l with
  | nil => simp [sumE]
  | cons e l ih =>
    simp only [sumE, List.map_cons, List.sum_cons] at ih ⊢
    rw [ih, Int.add_mul]
    rfl
theorem scale_spec {p : DProfile} {n : Int} (hp : profileOk p = true) (hn : btw n 1 1000000000000 = true) (ht : totalOf p * n ≤ 1000000000000) :
    (scaleP p n).2 = true ∧ profileOk (scaleP p n).1 = true ∧ totalOf (scaleP p n).1 = totalOf p * n ∧ ∀ m, countOf (scaleP p n).1 m = countOf p m * n := by
  have h1 := btw_iff.1 hn
  have hd : decide (totalOf p ≤ Int.tdiv 1000000000000 n) = true := by
    apply decide_eq_true
    rw [Int.tdiv_eq_ediv_of_nonneg (by omega)]
    exact (Int.le_ediv_iff_mul_le (by omega)).2 ht
  have hs : scaleP p n = profR ((entriesOf p).map (sclE n)) := by unfold scaleP; rw [hp, hn, hd]; rfl
  rw [hs]
  obtain ⟨h2, h3, h4, h5⟩ := profR_yes2 (l := (entriesOf p).map (sclE n)) (fun e he => by
    obtain ⟨e', he', rfl⟩ := List.mem_map.1 he
    obtain ⟨s, k1, k2, k3, k4⟩ := ents_entOk he'
    exact ⟨s, k1, k2, k3, Int.mul_nonneg k4 (by omega)⟩) (by rw [sumE_scl, sumE_ents hp]; exact ht)
  refine ⟨h2, h3, by rw [h4, sumE_scl, sumE_ents hp], fun m => ?_⟩
  by_cases hmm : m ≠ [] ∧ m.all frameOk = true
  · rw [h5 m hmm.1 hmm.2, cntT_scl, cntT_ents hp hmm.1 hmm.2]
  · have hz : ∀ r : DProfile, countOf r m = 0 := fun r => Decidable.byContradiction fun hc => hmm (stack_ok hc)
    rw [hz, hz]
    omega
/-- stacks added one by one -/
def addAll (l : List (List DFrame × Int)) (p : DProfile) : DProfile := l.foldl (fun p x => (addStack p x.1 x.2).1) p
theorem addAll_spec : ∀ {l : List (List DFrame × Int)} {p : DProfile}, profileOk p = true → (∀ x ∈ l, x.1 ≠ [] ∧ x.1.all frameOk = true ∧ 0 ≤ x.2) → totalOf p + (l.map Prod.snd).sum ≤ 1000000000000 →
    profileOk (addAll l p) = true ∧ totalOf (addAll l p) = totalOf p + (l.map Prod.snd).sum ∧ ∀ m, countOf (addAll l p) m = countOf p m + (l.map fun x => if m = x.1 then x.2 else 0).sum
  | [], p, hp, _, _ => ⟨hp, by simp [addAll], fun m => by simp [addAll]⟩
  | x :: l, p, hp, hx, ht => by
    obtain ⟨h1, h2, h3⟩ := hx x List.mem_cons_self
    have hnn : ∀ l : List (List DFrame × Int), (∀ x ∈ l, x.1 ≠ [] ∧ x.1.all frameOk = true ∧ 0 ≤ x.2) → 0 ≤ (l.map Prod.snd).sum := by
      intro l
      induction l with
      | nil => intro _; simp
      | cons a l ih =>
        intro h
        have := ih fun y hy => h y (List.mem_cons_of_mem _ hy)
        have := (h a List.mem_cons_self).2.2
        simp only [List.map_cons, List.sum_cons]
        omega
    have h4 := hnn l fun y hy => hx y (List.mem_cons_of_mem _ hy)
    simp only [List.map_cons, List.sum_cons] at ht
    obtain ⟨q, hq⟩ := addStack_yes hp h3 h1 h2 (by omega)
    have hqq := (addStack_spec hq).2.1
    have htq := addStack_total hq
    obtain ⟨k1, k2, k3⟩ := addAll_spec hqq (fun y hy => hx y (List.mem_cons_of_mem _ hy)) (by omega)
    have he : addAll (x :: l) p = addAll l q := by simp only [addAll, List.foldl_cons, hq]
    rw [he]
    simp only [List.map_cons, List.sum_cons]
    refine ⟨k1, by omega, fun m => ?_⟩
    rw [k3 m, addStack_count hq m]
    omega
end Go.Proofs.YtdlkoffandhclaaGreatDoor
namespace Go.Proofs.YtdlkoffandhclaaGreatDoor
open Go.RowKit
def stk (fs : List DFrame) : Prop := fs ≠ [] ∧ fs.all frameOk = true
theorem stk_snoc {fs : List DFrame} {nm : ByteArray} {n : Int} (h : stk fs) (hn : nameOk nm = true) (hl : 0 ≤ n ∧ n ≤ 59) : stk (fs ++ [⟨nm, n⟩]) := by
  refine ⟨by simp, ?_⟩
  rw [List.all_append, h.2]
  simp [frameOk, hn, btw_mk hl.1 hl.2]
theorem lit3 {x : Nat} (h : (x : Int) < 3) : ∃ nm : ByteArray, (#[Value.string { data := #[102] }, Value.string { data := #[103, 103] }, Value.string { data := #[104] }] : Array Value)[x]? = some (.string nm) ∧ nameOk nm = true ∧ nm.size ≤ 9 := by
  have : x = 0 ∨ x = 1 ∨ x = 2 := by omega
  rcases this with rfl | rfl | rfl
  · exact ⟨_, rfl, by decide, by decide⟩
  · exact ⟨_, rfl, by decide, by decide⟩
  · exact ⟨_, rfl, by decide, by decide⟩
set_option maxRecDepth 100000 in
set_option maxHeartbeats 2000000 in
theorem stack_s {w W : World} {k : Nat} (hC : Cur w W k) : Calls Tryz.prog 80 #[.pointer (some ⟨k, 0, none⟩)] W fun e W' => ∃ A c fs, e = .returned (.slice A fs.length c) ∧ stk fs ∧ fs.length ≤ 4 ∧ Cur w W' k ∧ OnlyS [k] W W' ∧ FrN (tFrame.sl 90) W.heap.size W'.heap.size W' [.slice A fs.length c] fs := by
  go_enter Tryz.func80, Tryz.ntmps80
  go_wp2_with (fail)
  refine (below_s hC 3 (by decide) (by decide)).mono ?_
  rintro e W1 ⟨x1, rfl, hx1, hC1, hS1⟩
  go_wp2_with (fail)
  refine (below_s (hC1.more (by repeat (first | with_reducible exact Gro.refl _ | with_reducible exact Gro.refl_drew _ _ _ | with_reducible exact Gro.refl_drewN _ _ _ _ | assumption | with_reducible apply Gro.more | with_reducible apply Gro.alloc | with_reducible apply Gro.drew | with_reducible apply Gro.drewN))) 4 (by decide) (by decide)).mono ?_
  rintro e W2 ⟨x2, rfl, hx2, hC2, hS2⟩
  go_wp2_with (fail)
  go_loopw [3, 4] (fun a b wr => ∃ (j : Nat) (A : Option Addr) (c : Nat) (fs : List DFrame), a = .slice A fs.length c ∧ b = .int .i64 j ∧ j + fs.length ≤ 4 ∧ Hid (stk fs) ∧ Cur w wr k ∧ OnlyS [k] W wr ∧ FrN (tFrame.sl 90) W.heap.size wr.heap.size wr [.slice A fs.length c] fs) (fun _ b _ => (intOf b).toNat)
  case atStart =>
    have h0 : FrN (tFrame.sl 90) W.heap.size (W1.heap.size + 1) (W1.alloc (.cells #[.string { data := #[109, 97, 105, 110] }, .int .i64 (1 + x1)] 90)) [.slice (some ⟨W1.heap.size, 0, none⟩) 1 1] [⟨{ data := #[109, 97, 105, 110] }, 1 + x1⟩] := by
      have h1 := fresh_one (e := 90) flatFrame (W0 := W1) (W := W1) (W1 := w) (B := 0) (ec := [.string { data := #[109, 97, 105, 110] }, .int .i64 (1 + x1)]) (x := ⟨{ data := #[109, 97, 105, 110] }, 1 + x1⟩) (tFrame_mkR (x := ⟨{ data := #[109, 97, 105, 110] }, 1 + x1⟩) (by simp only; decide) ⟨by simp only; omega, by simp only; omega⟩) (Gro.refl _) rfl
      exact h1.frN.wide hS1.size (by simp)
    exact ⟨x2, _, 1, [⟨{ data := #[109, 97, 105, 110] }, 1 + x1⟩], rfl, rfl, by simp only [List.length_cons, List.length_nil]; omega, Lib.hid ⟨by simp, by simp [frameOk, show nameOk { data := #[109, 97, 105, 110] } = true by decide]; exact btw_mk (by omega) (by omega)⟩, hC2, (hS1.trans (Gro.only (by repeat (first | with_reducible exact Gro.refl _ | with_reducible exact Gro.refl_drew _ _ _ | with_reducible exact Gro.refl_drewN _ _ _ _ | assumption | with_reducible apply Gro.more | with_reducible apply Gro.alloc | with_reducible apply Gro.drew | with_reducible apply Gro.drewN)) _)).trans hS2, (h0.only hS2 hC.lt).wide (Nat.le_refl _) (by have := hS2.size; simpa using this)⟩
  case round =>
    obtain ⟨j, A, c, fs, rfl, rfl, hj, hst, hC3, hS3, hF3⟩ := hrel
    by_cases hlt : 0 < j
    · go_wp2_with (fail)
      have hkl := hC3.lt
      have hkW := hC.lt
      have hWr := hS3.size
      go_region_law (first
        | (go_simp; go_at_call 79; (with_reducible refine (below_s (hC4.more (by (repeat (first | with_reducible exact Gro.refl _ | with_reducible exact Gro.refl_drew _ _ _ | with_reducible exact Gro.refl_drewN _ _ _ _ | assumption | with_reducible apply Gro.more | with_reducible apply Gro.alloc | with_reducible apply Gro.drew | with_reducible apply Gro.drewN)); done)) 3 (by decide) (by decide)).mono ?_); rintro e W5 ⟨x5, rfl, hx5, hC5, hS5⟩; have hSS : OnlyS [k] wr W5 := (Gro.only (by repeat (first | with_reducible exact Gro.refl _ | with_reducible exact Gro.refl_drew _ _ _ | with_reducible exact Gro.refl_drewN _ _ _ _ | assumption | with_reducible apply Gro.more | with_reducible apply Gro.alloc | with_reducible apply Gro.drew | with_reducible apply Gro.drewN)) _).trans (hS4.trans ((Gro.only (by repeat (first | with_reducible exact Gro.refl _ | with_reducible exact Gro.refl_drew _ _ _ | with_reducible exact Gro.refl_drewN _ _ _ _ | assumption | with_reducible apply Gro.more | with_reducible apply Gro.alloc | with_reducible apply Gro.drew | with_reducible apply Gro.drewN)) _).trans hS5)); have hF5 := hF3.only hSS hkW; have hz5 := hSS.size; have hwr : IntKind.i64.wrap (4 + (x5 : Int)) = 4 + x5 := IntWalk.i64_in _ ⟨by omega, by omega⟩; (try have hcl := (hS5.cell (g := wr.heap.size) (by have := hS4.size; simp at this; simp; omega) (by simp; omega) x4).trans hcl); have hl4 := hC4.lt; (try have hcl2 := (hS5.cell (g := W4.heap.size) (by simp) (by simp; omega) x4).trans (show _ = some (Value.string nm) from by simpa [go_sem] using hnm)))
        | (go_simp; go_at_call 79; (with_reducible refine (below_s (hC3.more (by (repeat (first | with_reducible exact Gro.refl _ | with_reducible exact Gro.refl_drew _ _ _ | with_reducible exact Gro.refl_drewN _ _ _ _ | assumption | with_reducible apply Gro.more | with_reducible apply Gro.alloc | with_reducible apply Gro.drew | with_reducible apply Gro.drewN)); done)) 3 (by decide) (by decide)).mono ?_); rintro e W4 ⟨x4, rfl, hx4, hC4, hS4⟩; obtain ⟨nm, hnm, hok, hsz⟩ := lit3 hx4; try have hcl := (hS4.cell (g := wr.heap.size) (by simp) (by simp; omega) x4).trans (show _ = some (Value.string nm) from by simpa [go_sem] using hnm))
        | (refine step_append_up (lo := W.heap.size) (L := fs.length + 1) rfl (.tmp 16) (.tmp 26) elFrame flatFrame (hF5.gro (by (repeat (first | with_reducible exact Gro.refl _ | with_reducible exact Gro.refl_drew _ _ _ | with_reducible exact Gro.refl_drewN _ _ _ _ | assumption | with_reducible apply Gro.more | with_reducible apply Gro.alloc | with_reducible apply Gro.drew | with_reducible apply Gro.drewN)); done)) (by simp; omega) (by simp; omega) (W1 := w) (B := 0) (ec := [.string nm, .int .i64 (4 + x5)]) (y := ⟨nm, 4 + x5⟩) (tFrame_mkR (x := ⟨nm, 4 + x5⟩) (by simp only; omega) ⟨by simp only; omega, by simp only; omega⟩) rfl rfl rfl (by intro j u hu; simpa [go_sem, hwr] using hu) rfl (by omega) (by omega) ?_; intro A6 c6 W6 hb6 hF6))
      all_goals go_wp2_with (fail)
      all_goals go_roundw
      all_goals try (case measure => simp [intOf]; omega)
      all_goals refine ⟨j - 1, A6, c6, fs ++ [⟨nm, 4 + x5⟩], by simp, by go_num, by simp only [List.length_append, List.length_cons, List.length_nil]; omega, Lib.hid (stk_snoc hst.out hok ⟨by omega, by omega⟩), (hC5.more (by repeat (first | with_reducible exact Gro.refl _ | with_reducible exact Gro.refl_drew _ _ _ | with_reducible exact Gro.refl_drewN _ _ _ _ | assumption | with_reducible apply Gro.more | with_reducible apply Gro.alloc | with_reducible apply Gro.drew | with_reducible apply Gro.drewN))).below hb6 hkW, (hS3.trans (hSS.trans (Gro.only (by repeat (first | with_reducible exact Gro.refl _ | with_reducible exact Gro.refl_drew _ _ _ | with_reducible exact Gro.refl_drewN _ _ _ _ | assumption | with_reducible apply Gro.more | with_reducible apply Gro.alloc | with_reducible apply Gro.drew | with_reducible apply Gro.drewN)) _))).below hb6 (Nat.le_refl _), by rw [List.length_append]; exact hF6⟩
    · obtain rfl : j = 0 := by omega
      go_wp2_with (fail)
      go_ret
      exact ⟨A, c, fs, rfl, hst.out, by omega, hC3, hS3, hF3⟩
def stks (l : List (List DFrame)) : Prop := ∀ s ∈ l, stk s ∧ s.length ≤ 4
end Go.Proofs.YtdlkoffandhclaaGreatDoor
namespace Go.Proofs.YtdlkoffandhclaaGreatDoor
open Go.RowKit
theorem box2 {W : World} {g : Nat} {a b : Value} {e : TypeId} (h : W.heap[g]? = some (.cells #[a, b] e (0, 0))) :
    W.cell? ⟨g, 0, none⟩ = some a ∧ W.cell? ⟨g, 1, none⟩ = some b ∧ W.frozen? ⟨g, 0, none⟩ = false ∧ W.frozen? ⟨g, 1, none⟩ = false ∧ g < W.heap.size := by
  refine ⟨?_, ?_, by simp [World.frozen?, h], by simp [World.frozen?, h], (Array.getElem?_eq_some_iff.1 h).1⟩
  all_goals
    rw [cell_of_row W g _ _ _ (0, 0) h]
    rfl
theorem set2 {W : World} {g : Nat} {p q : Value} {e : TypeId} (h : W.heap[g]? = some (.cells #[p, q] e (0, 0))) (a b : Value) :
    ((W.setCell ⟨g, 0, none⟩ a).setCell ⟨g, 1, none⟩ b).heap[g]? = some (.cells #[a, b] e (0, 0)) ∧ OnlyS [g] W ((W.setCell ⟨g, 0, none⟩ a).setCell ⟨g, 1, none⟩ b) :=
  ⟨heap_setCell_at (heap_setCell_at h 0 a) 1 b, ((OnlyS.refl _ _).setCell (p := ⟨g, 0, none⟩) (by simp) a).setCell (p := ⟨g, 1, none⟩) (by simp) b⟩
theorem only_below {a b : World} {g lo : Nat} (h : OnlyS [g] a b) (hl : lo ≤ g) (hg : g < a.heap.size) : Below lo a b :=
  ⟨h.os, h.tape, h.output, h.size, fun i hi => h.block i (by omega) (by simp; omega)⟩
theorem FrN.onlyL {α : Type} {T : Ty α} {lo hi : Nat} {L : List Nat} {a b : World} {cs : List Value} {x : α} (h : FrN T lo hi a cs x) (hs : OnlyS L a b) (hk : ∀ k ∈ L, k < lo) : FrN T lo hi b cs x := by
  obtain ⟨S, h1, h2, h3⟩ := h
  exact ⟨S, T.keepO h1 (fun j hj => hs.block j (T.ltO h1 j hj) (fun hm => by have := h3 j hj; have := hk j hm; omega)), h2, h3⟩
theorem grow_blk {S Y : World} {k : Nat} {o : Obj} (h : S.heap[k]? = some o) (hG : Gro S Y) : Y.heap[k]? = some o :=
  (hG.block (Array.getElem?_eq_some_iff.1 h).1).trans h
/-- a box of four numbers -/
theorem box4 {W : World} {g : Nat} {a b c d : Value} {e : TypeId} (h : W.heap[g]? = some (.cells #[a, b, c, d] e (0, 0))) :
    W.cell? ⟨g, 0, none⟩ = some a ∧ W.cell? ⟨g, 1, none⟩ = some b ∧ W.cell? ⟨g, 2, none⟩ = some c ∧ W.cell? ⟨g, 3, none⟩ = some d ∧ (∀ j, W.frozen? ⟨g, j, none⟩ = false) := by
  refine ⟨?_, ?_, ?_, ?_, fun j => by simp [World.frozen?, h]⟩
  all_goals
    rw [cell_of_row W g _ _ _ (0, 0) h]
    rfl
theorem set4 {W : World} {g : Nat} {p q r s : Value} {e : TypeId} (h : W.heap[g]? = some (.cells #[p, q, r, s] e (0, 0))) (a b c d : Value) :
    ((((W.setCell ⟨g, 0, none⟩ a).setCell ⟨g, 1, none⟩ b).setCell ⟨g, 2, none⟩ c).setCell ⟨g, 3, none⟩ d).heap[g]? = some (.cells #[a, b, c, d] e (0, 0)) ∧ OnlyS [g] W ((((W.setCell ⟨g, 0, none⟩ a).setCell ⟨g, 1, none⟩ b).setCell ⟨g, 2, none⟩ c).setCell ⟨g, 3, none⟩ d) :=
  ⟨heap_setCell_at (heap_setCell_at (heap_setCell_at (heap_setCell_at h 0 a) 1 b) 2 c) 3 d, ((((OnlyS.refl _ _).setCell (p := ⟨g, 0, none⟩) (by simp) a).setCell (p := ⟨g, 1, none⟩) (by simp) b).setCell (p := ⟨g, 2, none⟩) (by simp) c).setCell (p := ⟨g, 3, none⟩) (by simp) d⟩
end Go.Proofs.YtdlkoffandhclaaGreatDoor
namespace Go.Proofs.YtdlkoffandhclaaGreatDoor
open Go.RowKit
theorem ints_rows {w : World} : ∀ {xs : List Int}, (∀ x ∈ xs, I64 x) → Rows intT w (xs.map (Value.int .i64)) xs []
  | [], _ => ⟨rfl, rfl⟩
  | x :: xs, h => ⟨[.int .i64 x], xs.map (Value.int .i64), [], [], rfl, rfl, ⟨rfl, (h x List.mem_cons_self).1, (h x List.mem_cons_self).2, rfl⟩, ints_rows fun y hy => h y (List.mem_cons_of_mem _ hy)⟩
theorem ints_own {W : World} {e : TypeId} {cs : Array Value} {n g : Nat} (xs : List Int) (hcs : cs.toList = xs.map (Value.int .i64)) (hn : n = xs.length) (hg : g = W.heap.size) (hb : ∀ x ∈ xs, I64 x) (hl : xs.length ≤ 1000) : FrN (intT.sl e) g (g + 1) (W.alloc (.cells cs e)) [.slice (some ⟨g, 0, none⟩) n n] xs := by
  subst hn hg
  have h : (intT.sl e).O (W.alloc (.cells cs e)) [.slice (some ⟨W.heap.size, 0, none⟩) xs.length xs.length] xs (W.heap.size :: []) :=
    own_made (heap_alloc_new W _) (by rw [hcs]; exact ints_rows hb) (by omega)
  exact ⟨_, h, by simp, fun b hb => by simp at hb; omega⟩
theorem blk_only {W X Y : World} {g k : Nat} {o : Obj} (h : W.heap[g]? = some o) (hG : Gro W X) (hS : OnlyS [k] X Y) (hne : g ≠ k) : Y.heap[g]? = some o := by
  have hl : g < W.heap.size := (Array.getElem?_eq_some_iff.1 h).1
  exact (hS.block g (Nat.lt_of_lt_of_le hl hG.size) (by simpa using hne)).trans ((hG.block hl).trans h)
theorem ints_blk {W : World} {g : Nat} {cs : Array Value} {e : TypeId} {n : Nat} (h : W.heap[g]? = some (.cells cs e (0, 0))) (xs : List Int) (hcs : cs.toList = xs.map (Value.int .i64)) (hn : n = xs.length) (hb : ∀ x ∈ xs, I64 x) (hl : xs.length ≤ 1000) : (intT.sl e).R W W.heap.size [.slice (some ⟨g, 0, none⟩) n n] xs := by
  subst hn
  have h : (intT.sl e).O W [.slice (some ⟨g, 0, none⟩) xs.length xs.length] xs (g :: []) := own_made h (by rw [hcs]; exact ints_rows hb) (by omega)
  exact Ty.read _ h
/-- a good, small profile -/
def dp (p : DProfile) : Prop := profileOk p = true ∧ totalOf p ≤ 280 ∧ p.Stacks.Nodes.length ≤ 28
set_option maxRecDepth 100000 in
set_option maxHeartbeats 8000000 in
theorem prof_s {w W : World} {k : Nat} (hC : Cur w W k) : Calls Tryz.prog 50 #[.pointer (some ⟨k, 0, none⟩)] W fun e W' => ∃ (p : DProfile) (A0 : Option Addr) (c0 : Nat) (A1 : Option Addr) (c1 : Nat), e = .returned (.agg #[.slice A0 p.Stacks.Nodes.length c0, .slice A1 p.Counts.length c1]) ∧ dp p ∧ Cur w W' k ∧ OnlyS [k] W W' ∧ FrN tProfile W.heap.size W'.heap.size W' [.slice A0 p.Stacks.Nodes.length c0, .slice A1 p.Counts.length c1] p := by
  have hk := hC.lt
  have hlo := hC.lo
  have hI : ∀ x ∈ ([1, 1, 2, 5, 40] : List Int), I64 x := by intro x hx; simp at hx; constructor <;> omega
  go_enter Tryz.func50, Tryz.ntmps50
  go_wp2_with (fail)
  refine (below_s (hC.more (by repeat (first | with_reducible exact Gro.refl _ | with_reducible exact Gro.refl_drew _ _ _ | with_reducible exact Gro.refl_drewN _ _ _ _ | assumption | with_reducible apply Gro.more | with_reducible apply Gro.alloc | with_reducible apply Gro.drew | with_reducible apply Gro.drewN))) 8 (by decide) (by decide)).mono ?_
  rintro e W2 ⟨x2, rfl, hx2, hC2, hS2⟩
  have e2 : W2.heap[W.heap.size]? = some (.cells #[.slice none 0 0, .slice none 0 0] 33 (0, 0)) := blk_only (heap_alloc_new W _) (by repeat (first | with_reducible exact Gro.refl _ | with_reducible exact Gro.refl_drew _ _ _ | with_reducible exact Gro.refl_drewN _ _ _ _ | assumption | with_reducible apply Gro.more | with_reducible apply Gro.alloc | with_reducible apply Gro.drew | with_reducible apply Gro.drewN)) hS2 (by omega)
  have e3 : W2.heap[W.heap.size + 1]? = some (.cells #[.slice none 0 0, .slice none 0 0] 33 (0, 0)) := blk_only (W := (W.alloc (.cells #[.slice none 0 0, .slice none 0 0] 33)).alloc (.cells #[.slice none 0 0, .slice none 0 0] 33)) (by have := heap_alloc_new (W.alloc (.cells #[.slice none 0 0, .slice none 0 0] 33)) (.cells #[.slice none 0 0, .slice none 0 0] 33); simpa using this) (by repeat (first | with_reducible exact Gro.refl _ | with_reducible exact Gro.refl_drew _ _ _ | with_reducible exact Gro.refl_drewN _ _ _ _ | assumption | with_reducible apply Gro.more | with_reducible apply Gro.alloc | with_reducible apply Gro.drew | with_reducible apply Gro.drewN)) hS2 (by omega)
  have hz2 := hS2.size
  simp at hz2
  have hS2' : OnlyS [k] W W2 := (Gro.only (by repeat (first | with_reducible exact Gro.refl _ | with_reducible exact Gro.refl_drew _ _ _ | with_reducible exact Gro.refl_drewN _ _ _ _ | assumption | with_reducible apply Gro.more | with_reducible apply Gro.alloc | with_reducible apply Gro.drew | with_reducible apply Gro.drewN)) _).trans hS2
  go_wp2_with (fail)
  go_loopw [4] (fun b wr => ∃ (j : Nat) (p : DProfile) (A0 : Option Addr) (c0 : Nat) (A1 : Option Addr) (c1 : Nat), b = .int .i64 j ∧ j ≤ 7 ∧ Hid (profileOk p = true) ∧ totalOf p + 40 * j ≤ 280 ∧ p.Stacks.Nodes.length + 4 * j ≤ 28 ∧ p.Counts.length ≤ 28 ∧ Cur w wr k ∧ OnlyS [k] W wr ∧ W.heap.size + 2 ≤ wr.heap.size ∧ Hid (wr.heap[W.heap.size]? = some (.cells #[.slice none 0 0, .slice none 0 0] 33 (0, 0))) ∧ Hid (wr.heap[W.heap.size + 1]? = some (.cells #[.slice A0 p.Stacks.Nodes.length c0, .slice A1 p.Counts.length c1] 33 (0, 0))) ∧ FrN tProfile (W.heap.size + 2) wr.heap.size wr [.slice A0 p.Stacks.Nodes.length c0, .slice A1 p.Counts.length c1] p) (fun b _ => (intOf b).toNat)
  case atStart =>
    have h0 : FrN tProfile (W.heap.size + 2) W2.heap.size W2 [.slice none 0 0, .slice none 0 0] emptyP := by
      obtain ⟨S, h1, h2, h3⟩ := fresh_emptyP W2 W2
      exact ⟨S, h1, h2, fun b hb => by have := h3 b hb; have := tProfile.ltO h1 b hb; omega⟩
    exact ⟨x2, emptyP, none, 0, none, 0, rfl, by omega, Lib.hid emptyP_ok, by rw [total_empty]; omega, by show 0 + 4 * x2 ≤ 28; omega, Nat.zero_le _, hC2, hS2', hz2, Lib.hid e2, Lib.hid e3, h0⟩
  case round =>
    obtain ⟨j, p, A0, c0, A1, c1, rfl, hj, hpok, hpt, hpn, hpc, hC3, hS3, hz3, hb2, hb3, hF3⟩ := hrel
    have hk3 := hC3.lt
    have ht0 := (total_bd hpok.out).1
    obtain ⟨q0, q1, qf0, qf1, ql⟩ := box2 hb3.out
    by_cases hlt : 0 < j
    · go_wp2_with (fail)
      go_region_law (first
        | (go_simp; go_at_call 80; (with_reducible refine (stack_s (hC3.more (by (repeat (first | with_reducible exact Gro.refl _ | with_reducible exact Gro.refl_drew _ _ _ | with_reducible exact Gro.refl_drewN _ _ _ _ | assumption | with_reducible apply Gro.more | with_reducible apply Gro.alloc | with_reducible apply Gro.drew | with_reducible apply Gro.drewN)); done))).mono ?_); rintro e W4 ⟨A4, c4, fs, rfl, hfs, hfl, hC4, hS4, hF4⟩; have hb4 := blk_only hb3.out (by repeat (first | with_reducible exact Gro.refl _ | with_reducible exact Gro.refl_drew _ _ _ | with_reducible exact Gro.refl_drewN _ _ _ _ | assumption | with_reducible apply Gro.more | with_reducible apply Gro.alloc | with_reducible apply Gro.drew | with_reducible apply Gro.drewN)) hS4 (by omega); obtain ⟨r0, r1, rf0, rf1, rl⟩ := box2 hb4; (try (have hg5 : W4.heap[wr.heap.size]? = some (.cells #[.int .i64 1, .int .i64 1, .int .i64 2, .int .i64 5, .int .i64 40] 3 (0, 0)) := (hS4.block _ (by simp) (by simp; omega)).trans (heap_alloc_new wr _))))
        | (go_simp; go_at_call 81; have hR5 := ints_blk (n := 5) hg5 [1, 1, 2, 5, 40] rfl rfl hI (by decide); (with_reducible refine (pick_s (hC4.more (by (repeat (first | with_reducible exact Gro.refl _ | with_reducible exact Gro.refl_drew _ _ _ | with_reducible exact Gro.refl_drewN _ _ _ _ | assumption | with_reducible apply Gro.more | with_reducible apply Gro.alloc | with_reducible apply Gro.drew | with_reducible apply Gro.drewN)); done)) (xs := [1, 1, 2, 5, 40]) (Ty.up _ hR5 (by repeat (first | with_reducible exact Gro.refl _ | with_reducible exact Gro.refl_drew _ _ _ | with_reducible exact Gro.refl_drewN _ _ _ _ | assumption | with_reducible apply Gro.more | with_reducible apply Gro.alloc | with_reducible apply Gro.drew | with_reducible apply Gro.drewN))) (fun ad h => by injection h with h; subst h; simp; omega) (by omega) (by omega)).mono ?_); rintro e W5 ⟨n, rfl, hn, hC5, hS5⟩; have hb5 := blk_only hb4 (by repeat (first | with_reducible exact Gro.refl _ | with_reducible exact Gro.refl_drew _ _ _ | with_reducible exact Gro.refl_drewN _ _ _ _ | assumption | with_reducible apply Gro.more | with_reducible apply Gro.alloc | with_reducible apply Gro.drew | with_reducible apply Gro.drewN)) hS5 (by omega); obtain ⟨s0, s1, sf0, sf1, sl⟩ := box2 hb5)
        | (go_simp; go_at_call 81; have hk4 := hC4.lt; have hR5 := ints_blk (n := 5) (heap_alloc_new W4 (.cells #[.int .i64 1, .int .i64 1, .int .i64 2, .int .i64 5, .int .i64 40] 3)) [1, 1, 2, 5, 40] rfl rfl hI (by decide); (with_reducible refine (pick_s (hC4.more (by (repeat (first | with_reducible exact Gro.refl _ | with_reducible exact Gro.refl_drew _ _ _ | with_reducible exact Gro.refl_drewN _ _ _ _ | assumption | with_reducible apply Gro.more | with_reducible apply Gro.alloc | with_reducible apply Gro.drew | with_reducible apply Gro.drewN)); done)) (xs := [1, 1, 2, 5, 40]) (Ty.up _ hR5 (by repeat (first | with_reducible exact Gro.refl _ | with_reducible exact Gro.refl_drew _ _ _ | with_reducible exact Gro.refl_drewN _ _ _ _ | assumption | with_reducible apply Gro.more | with_reducible apply Gro.alloc | with_reducible apply Gro.drew | with_reducible apply Gro.drewN))) (fun ad h => by injection h with h; subst h; simp; omega) (by omega) (by omega)).mono ?_); rintro e W5 ⟨n, rfl, hn, hC5, hS5⟩; have hb5 := blk_only hb4 (by repeat (first | with_reducible exact Gro.refl _ | with_reducible exact Gro.refl_drew _ _ _ | with_reducible exact Gro.refl_drewN _ _ _ _ | assumption | with_reducible apply Gro.more | with_reducible apply Gro.alloc | with_reducible apply Gro.drew | with_reducible apply Gro.drewN)) hS5 (by omega); obtain ⟨s0, s1, sf0, sf1, sl⟩ := box2 hb5)
        | (go_simp; go_at_call 61; have hSS : OnlyS [k] wr W5 := (Gro.only (by repeat (first | with_reducible exact Gro.refl _ | with_reducible exact Gro.refl_drew _ _ _ | with_reducible exact Gro.refl_drewN _ _ _ _ | assumption | with_reducible apply Gro.more | with_reducible apply Gro.alloc | with_reducible apply Gro.drew | with_reducible apply Gro.drewN)) _).trans (hS4.trans ((Gro.only (by repeat (first | with_reducible exact Gro.refl _ | with_reducible exact Gro.refl_drew _ _ _ | with_reducible exact Gro.refl_drewN _ _ _ _ | assumption | with_reducible apply Gro.more | with_reducible apply Gro.alloc | with_reducible apply Gro.drew | with_reducible apply Gro.drewN)) _).trans hS5)); have hFp := hF3.only hSS (by omega); have hs4 := hS4.size; have hFs := (hF4.gro (w2 := _) (by (repeat (first | with_reducible exact Gro.refl _ | with_reducible exact Gro.refl_drew _ _ _ | with_reducible exact Gro.refl_drewN _ _ _ _ | assumption | with_reducible apply Gro.more | with_reducible apply Gro.alloc | with_reducible apply Gro.drew | with_reducible apply Gro.drewN)); done)).only hS5 (by first | omega | (simp; omega)); have hnb : 0 ≤ n ∧ n ≤ 40 := (by simp at hn; omega); obtain ⟨q, hq⟩ := addStack_yes hpok.out hnb.1 hfs.1 hfs.2 (by omega); (with_reducible refine (addStack_s (p := p) (l := fs) (n := n) (Ty.up _ (rdProf hFp.read).1 (by repeat (first | with_reducible exact Gro.refl _ | with_reducible exact Gro.refl_drew _ _ _ | with_reducible exact Gro.refl_drewN _ _ _ _ | assumption | with_reducible apply Gro.more | with_reducible apply Gro.alloc | with_reducible apply Gro.drew | with_reducible apply Gro.drewN))) (Ty.up _ (rdProf hFp.read).2 (by repeat (first | with_reducible exact Gro.refl _ | with_reducible exact Gro.refl_drew _ _ _ | with_reducible exact Gro.refl_drewN _ _ _ _ | assumption | with_reducible apply Gro.more | with_reducible apply Gro.alloc | with_reducible apply Gro.drew | with_reducible apply Gro.drewN))) (Ty.up _ hFs.read (by repeat (first | with_reducible exact Gro.refl _ | with_reducible exact Gro.refl_drew _ _ _ | with_reducible exact Gro.refl_drewN _ _ _ _ | assumption | with_reducible apply Gro.more | with_reducible apply Gro.alloc | with_reducible apply Gro.drew | with_reducible apply Gro.drewN))) (by omega) (by omega) (by omega)).mono ?_); rw [hq]; rintro e W6 ⟨A6, c6, A7, c7, rfl, hF6, os6, d6, rfl⟩))
      all_goals go_wp2_with (fail)
      all_goals go_roundw
      all_goals try (case measure => simp [intOf]; omega)
      all_goals
        have hqs := addStack_spec hq
        have hqt := addStack_total hq
        have hql := addStack_len p fs n
        rw [hq] at hql
        have hqc := pOk_len hqs.2.1
        have h2 := set2 hb5 (.slice A6 q.Stacks.Nodes.length c6) (.slice A7 q.Counts.length c7)
        have t4 := blk_only hb2.out (by repeat (first | with_reducible exact Gro.refl _ | with_reducible exact Gro.refl_drew _ _ _ | with_reducible exact Gro.refl_drewN _ _ _ _ | assumption | with_reducible apply Gro.more | with_reducible apply Gro.alloc | with_reducible apply Gro.drew | with_reducible apply Gro.drewN)) hS4 (by omega)
        have t5 := blk_only t4 (by repeat (first | with_reducible exact Gro.refl _ | with_reducible exact Gro.refl_drew _ _ _ | with_reducible exact Gro.refl_drewN _ _ _ _ | assumption | with_reducible apply Gro.more | with_reducible apply Gro.alloc | with_reducible apply Gro.drew | with_reducible apply Gro.drewN)) hS5 (by omega)
        have hz5 := h2.2.size
        have hbl : Below W.heap.size W5 (gro ((W5.setCell ⟨W.heap.size + 1, 0, none⟩ (.slice A6 q.Stacks.Nodes.length c6)).setCell ⟨W.heap.size + 1, 1, none⟩ (.slice A7 q.Counts.length c7)) os6 d6) := (only_below h2.2 (by omega) sl).trans ((Gro.of _ _ _).below.mono (by omega))
        simp only at hql
        refine ⟨j - 1, q, A6, c6, A7, c7, by go_num, by omega, Lib.hid hqs.2.1, by omega, by omega, by omega, (hC5.only h2.2 (by simp; omega) (fun b hb => by simp at hb; omega)).more (Gro.of _ _ _), (hS3.trans hSS).below hbl (Nat.le_refl _), by have := hbl.size; omega, Lib.hid ?_, Lib.hid ?_, ?_⟩
        · exact (gro_get _ _ _ (by omega)).trans ((h2.2.block W.heap.size (by omega) (by simp)).trans t5)
        · exact (gro_get _ _ _ (by omega)).trans h2.1
        · exact ((hF6.frN.same (Same.base (by simp) (Nat.le_refl _))).wide (by first | omega | (simp; omega)) (by simp))
    · obtain rfl : j = 0 := by omega
      obtain ⟨y0, y1, yf0, yf1, yl⟩ := box2 hb2.out
      go_wp2_with (fail)
      have h2 := set2 hb2.out (.slice A0 p.Stacks.Nodes.length c0) (.slice A1 p.Counts.length c1)
      have ha := box2 h2.1
      refine bodyPost_ret (v := .agg #[.slice A0 p.Stacks.Nodes.length c0, .slice A1 p.Counts.length c1]) (by simp [results, Tryz.results50, go_sem, ha]) rfl ⟨p, A0, c0, A1, c1, rfl, ⟨hpok.out, by omega, by omega⟩, hC3.only h2.2 (by simp; omega) (fun b hb => by simp at hb; omega), hS3.below (only_below h2.2 (Nat.le_refl _) yl) (Nat.le_refl _), (hF3.only h2.2 (by omega)).wide (by omega) h2.2.size⟩
set_option maxRecDepth 100000 in
set_option maxHeartbeats 8000000 in
theorem profs_s {w : World} {A : Option Addr} {n c : Nat} {xs : List UInt8} (hx : (byteT.sl 5).R w w.heap.size [.slice A n c] xs) (hl : xs.length ≤ 1099511627776) : Calls Tryz.prog 16 #[.slice A n c] w fun e W' => ∃ (p q : DProfile) (A0 : Option Addr) (c0 : Nat) (A1 : Option Addr) (c1 : Nat) (A2 : Option Addr) (c2 : Nat) (A3 : Option Addr) (c3 : Nat), e = .returned (.tuple #[.agg #[.slice A0 p.Stacks.Nodes.length c0, .slice A1 p.Counts.length c1], .agg #[.slice A2 q.Stacks.Nodes.length c2, .slice A3 q.Counts.length c3]]) ∧ dp p ∧ dp q ∧ Gro w W' ∧ tProfile.R W' W'.heap.size [.slice A0 p.Stacks.Nodes.length c0, .slice A1 p.Counts.length c1] p ∧ tProfile.R W' W'.heap.size [.slice A2 q.Stacks.Nodes.length c2, .slice A3 q.Counts.length c3] q := by
  go_enter Tryz.func16, Tryz.ntmps16
  go_wp2_with (fail)
  refine (new_s (Ty.up _ hx (by repeat (first | with_reducible exact Gro.refl _ | with_reducible exact Gro.refl_drew _ _ _ | with_reducible exact Gro.refl_drewN _ _ _ _ | assumption | with_reducible apply Gro.more | with_reducible apply Gro.alloc | with_reducible apply Gro.drew | with_reducible apply Gro.drewN))) hl).mono ?_
  rintro e W1 ⟨k, rfl, hC1⟩
  have hk1 := hC1.lt
  have hlo := hC1.lo
  simp at hlo
  have e2 : W1.heap[w.heap.size]? = some (.cells #[.slice none 0 0, .slice none 0 0] 33 (0, 0)) := (hC1.gro.block (by simp; omega)).trans ((((Gro.refl _).alloc _).block (by simp)).trans (heap_alloc_new w _))
  have e3 : W1.heap[w.heap.size + 1]? = some (.cells #[.slice none 0 0, .slice none 0 0] 33 (0, 0)) := (hC1.gro.block (by simp)).trans (by have := heap_alloc_new (w.alloc (.cells #[.slice none 0 0, .slice none 0 0] 33)) (.cells #[.slice none 0 0, .slice none 0 0] 33); simpa using this)
  go_wp2_with (fail)
  refine (prof_s hC1).mono ?_
  rintro e W2 ⟨p, A0, c0, A1, c1, rfl, hp, hC2, hS2, hF2⟩
  have hk2 := hC2.lt
  have hz2 := hS2.size
  have f2 := blk_only e2 (Gro.refl _) hS2 (by omega)
  have f3 := blk_only e3 (Gro.refl _) hS2 (by omega)
  go_wp2_with (fail)
  go_region_law (first
    | (go_simp; go_at_call 50; (with_reducible refine (prof_s (hC2.more (by (repeat (first | with_reducible exact Gro.refl _ | with_reducible exact Gro.refl_drew _ _ _ | with_reducible exact Gro.refl_drewN _ _ _ _ | assumption | with_reducible apply Gro.more | with_reducible apply Gro.alloc | with_reducible apply Gro.drew | with_reducible apply Gro.drewN)); done))).mono ?_); rintro e W3 ⟨q, A2, c2, A3, c3, rfl, hq, hC3, hS3, hF3⟩; have g2 := blk_only f2 (by repeat (first | with_reducible exact Gro.refl _ | with_reducible exact Gro.refl_drew _ _ _ | with_reducible exact Gro.refl_drewN _ _ _ _ | assumption | with_reducible apply Gro.more | with_reducible apply Gro.alloc | with_reducible apply Gro.drew | with_reducible apply Gro.drewN)) hS3 (by omega); have g3 := blk_only f3 (by repeat (first | with_reducible exact Gro.refl _ | with_reducible exact Gro.refl_drew _ _ _ | with_reducible exact Gro.refl_drewN _ _ _ _ | assumption | with_reducible apply Gro.more | with_reducible apply Gro.alloc | with_reducible apply Gro.drew | with_reducible apply Gro.drewN)) hS3 (by omega); have g5 := blk_only (heap_alloc_new W2 (.cells #[.slice A0 p.Stacks.Nodes.length c0, .slice A1 p.Counts.length c1] 33)) (by repeat (first | with_reducible exact Gro.refl _ | with_reducible exact Gro.refl_drew _ _ _ | with_reducible exact Gro.refl_drewN _ _ _ _ | assumption | with_reducible apply Gro.more | with_reducible apply Gro.alloc | with_reducible apply Gro.drew | with_reducible apply Gro.drewN)) hS3 (by omega); obtain ⟨r0, r1, rf0, rf1, rl⟩ := box2 g2; obtain ⟨s0, s1, sf0, sf1, sl⟩ := box2 g3; obtain ⟨t0, t1, tf0, tf1, tl⟩ := box2 g5; have hz3 := hS3.size; have hFp := (hF2.gro (w2 := _) (by (repeat (first | with_reducible exact Gro.refl _ | with_reducible exact Gro.refl_drew _ _ _ | with_reducible exact Gro.refl_drewN _ _ _ _ | assumption | with_reducible apply Gro.more | with_reducible apply Gro.alloc | with_reducible apply Gro.drew | with_reducible apply Gro.drewN)); done)).only hS3 (by omega)))
  all_goals go_wp2_with (fail)
  all_goals first
    | (have hne : w.heap.size ≠ w.heap.size + 1 := by omega
       have h2 := set2 g2 (.slice A0 p.Stacks.Nodes.length c0) (.slice A1 p.Counts.length c1)
       have h3 := set2 ((h2.2.block (w.heap.size + 1) (by omega) (by simp)).trans g3) (.slice A2 q.Stacks.Nodes.length c2) (.slice A3 q.Counts.length c3)
       have hx := box2 ((h3.2.block (w.heap.size) (by have := h2.2.size; omega) (by simp)).trans h2.1)
       have hy := box2 h3.1
       have hon : OnlyS [w.heap.size, w.heap.size + 1] W3 _ := (h2.2.mono (fun b hb => by simp at hb; simp [hb])).trans (h3.2.mono (fun b hb => by simp at hb; simp [hb]))
       have hwl : w.heap.size + 2 ≤ W1.heap.size := by omega
       have hpr := (hFp.onlyL hon (by intro b hb; simp at hb; omega)).read
       have hqr := (hF3.onlyL hon (by intro b hb; simp at hb; simp; omega)).read
       refine bodyPost_ret (v := .tuple #[.agg #[.slice A0 p.Stacks.Nodes.length c0, .slice A1 p.Counts.length c1], .agg #[.slice A2 q.Stacks.Nodes.length c2, .slice A3 q.Counts.length c3]]) (by simp [results, Tryz.results16, go_sem, hx, hy]) rfl ⟨p, q, A0, c0, A1, c1, A2, c2, A3, c3, rfl, hp, hq, hon.gro ?_ (by intro b hb; simp at hb; omega), hpr, hqr⟩
       exact Gro.trans ((Gro.refl w).alloc _ |>.alloc _) hC3.gro)
    | (have hne : w.heap.size ≠ w.heap.size + 1 := by omega
       have h2 := set2 g3 (.slice A2 q.Stacks.Nodes.length c2) (.slice A3 q.Counts.length c3)
       have h3 := set2 ((h2.2.block (w.heap.size) (by omega) (by simp)).trans g2) (.slice A0 p.Stacks.Nodes.length c0) (.slice A1 p.Counts.length c1)
       have hx := box2 ((h3.2.block (w.heap.size + 1) (by have := h2.2.size; omega) (by simp)).trans h2.1)
       have hy := box2 h3.1
       have hon : OnlyS [w.heap.size, w.heap.size + 1] W3 _ := (h2.2.mono (fun b hb => by simp at hb; simp [hb])).trans (h3.2.mono (fun b hb => by simp at hb; simp [hb]))
       have hwl : w.heap.size + 2 ≤ W1.heap.size := by omega
       have hpr := (hFp.onlyL hon (by intro b hb; simp at hb; omega)).read
       have hqr := (hF3.onlyL hon (by intro b hb; simp at hb; simp; omega)).read
       refine bodyPost_ret (v := .tuple #[.agg #[.slice A0 p.Stacks.Nodes.length c0, .slice A1 p.Counts.length c1], .agg #[.slice A2 q.Stacks.Nodes.length c2, .slice A3 q.Counts.length c3]]) (by simp [results, Tryz.results16, go_sem, hx, hy]) rfl ⟨p, q, A0, c0, A1, c1, A2, c2, A3, c3, rfl, hp, hq, hon.gro ?_ (by intro b hb; simp at hb; omega), hpr, hqr⟩
       exact Gro.trans ((Gro.refl w).alloc _ |>.alloc _) hC3.gro)
end Go.Proofs.YtdlkoffandhclaaGreatDoor
namespace Go.Proofs.YtdlkoffandhclaaGreatDoor
open Go.RowKit
theorem fmt_main1 : fmtF [⟨⟨#[109, 97, 105, 110]⟩, 1⟩, ⟨⟨#[102]⟩, 5⟩] = ⟨#[109, 97, 105, 110, 58, 49, 59, 102, 58, 53]⟩ := by
  have h1 : frameOk ⟨⟨#[109, 97, 105, 110]⟩, 1⟩ = true := by decide
  have h2 : frameOk ⟨⟨#[102]⟩, 5⟩ = true := by decide
  unfold fmtF
  rw [if_pos (by simp [h1, h2])]
  unfold joinF frameB
  rw [List.map_cons, List.map_cons, List.map_nil, show (1 : Int).toNat = 1 from rfl, show (5 : Int).toNat = 5 from rfl, Lib.decDigits_one (by decide), Lib.decDigits_one (by decide)]
  rfl
theorem main1_ok : ([⟨⟨#[109, 97, 105, 110]⟩, 1⟩, ⟨⟨#[102]⟩, 5⟩] : List DFrame).all frameOk = true := by decide
/-- the profile of one entry -/
theorem one_spec {n : Int} (h0 : 0 ≤ n) (h1 : n ≤ 1000) : profileOk (profR [⟨⟨#[109, 97, 105, 110, 58, 49, 59, 102, 58, 53]⟩, n⟩]).1 = true ∧ totalOf (profR [⟨⟨#[109, 97, 105, 110, 58, 49, 59, 102, 58, 53]⟩, n⟩]).1 = n ∧ (profR [⟨⟨#[109, 97, 105, 110, 58, 49, 59, 102, 58, 53]⟩, n⟩]).1.Stacks.Nodes.length ≤ 2 ∧ frSum [⟨⟨#[109, 97, 105, 110, 58, 49, 59, 102, 58, 53]⟩, n⟩] ≤ 2 := by
  obtain ⟨_, h3, h4, _⟩ := profR_yes2 (l := [⟨⟨#[109, 97, 105, 110, 58, 49, 59, 102, 58, 53]⟩, n⟩]) (fun e he => by
    rw [List.mem_singleton] at he
    subst he
    exact ⟨_, by simp, main1_ok, fmt_main1.symm, h0⟩) (by simp [sumE]; omega)
  have h5 := parse_back main1_ok (by simp)
  rw [fmt_main1] at h5
  have h6 : frSum [⟨⟨#[109, 97, 105, 110, 58, 49, 59, 102, 58, 53]⟩, n⟩] ≤ 2 := by
    unfold frSum frs parseR
    simp only [List.map_cons, List.map_nil, List.sum_cons, List.sum_nil]
    rw [h5]
    simp
  refine ⟨h3, by rw [h4]; simp [sumE], Nat.le_trans (profR_len _).1 h6, h6⟩
theorem same_mk {a b : DProfile} (ha : profileOk a = true) (hb : profileOk b = true) (h : ∀ m, countOf a m = countOf b m) : sameP a b = true := by
  unfold sameP
  rw [ha, hb, ents_ext ha hb h]
  simp
theorem fr_two (p q : DProfile) : frSum (entriesOf p ++ entriesOf q) ≤ p.Stacks.Nodes.length * p.Stacks.Nodes.length + q.Stacks.Nodes.length * q.Stacks.Nodes.length := by
  rw [frSum_app]
  have := frSum_ents p
  have := frSum_ents q
  omega
theorem merge_nodes {p q : DProfile} : (mergeP p q).1.Stacks.Nodes.length ≤ p.Stacks.Nodes.length * p.Stacks.Nodes.length + q.Stacks.Nodes.length * q.Stacks.Nodes.length := by
  have h1 := fr_two p q
  have h2 := profR_len (entriesOf p ++ entriesOf q)
  unfold mergeP
  split
  · omega
  · exact Nat.zero_le _
theorem sz_small {p : DProfile} (h : profileOk p = true) {k : Nat} (hn : p.Stacks.Nodes.length ≤ k) : szProfile p ≤ 10 * k := by
  have h1 := pOk_len h
  have h2 : stacksOk p.Stacks = true := (pOk_parts h).1
  have h3 : ∀ (l : List DNode), (∀ x ∈ l, szNode x ≤ 8) → (l.map szNode).sum ≤ 8 * l.length := by
    intro l
    induction l with
    | nil => intro _; simp
    | cons a l ih =>
      intro h
      have := ih fun x hx => h x (List.mem_cons_of_mem _ hx)
      have := h a List.mem_cons_self
      simp only [List.map_cons, List.sum_cons, List.length_cons]
      omega
  have h4 := h3 p.Stacks.Nodes (fun x hx => by
    obtain ⟨j, hj, rfl⟩ := List.getElem_of_mem hx
    have := stacksOk_node h2 (List.getElem?_eq_getElem hj)
    have := (frame_bd this.2.2).1
    exact this)
  unfold szProfile szStacks szL
  omega
/-- the whole law -/
theorem merged_all {p q : DProfile} {n : Int} (hp : dp p) (hq : dp q) (h0 : 1 ≤ n) (h1 : n ≤ 256) :
    ∃ r a b c d e f g h : DProfile, ∃ ro co do_ eo : Bool, profR [⟨⟨#[109, 97, 105, 110, 58, 49, 59, 102, 58, 53]⟩, n⟩] = (r, ro) ∧ mergeP p q = (a, true) ∧ mergeP q p = (b, true) ∧ mergeP a r = (c, co) ∧ mergeP q r = (d, do_) ∧ mergeP p d = (e, eo) ∧ mergeAllP [p, q, r] = (f, true) ∧ mergeP p p = (g, true) ∧ scaleP p 2 = (h, true) ∧
      sameP a b = true ∧ sameP c e = true ∧ sameP c f = true ∧ sameP g h = true ∧ totalOf a = totalOf p + totalOf q ∧ 0 ≤ totalOf p ∧ totalOf p ≤ 280 ∧ 0 ≤ totalOf q ∧ totalOf q ≤ 280 ∧
      r.Stacks.Nodes.length ≤ 2 ∧ a.Stacks.Nodes.length ≤ 1568 ∧ b.Stacks.Nodes.length ≤ 1568 ∧ c.Stacks.Nodes.length ≤ 2500000 ∧ d.Stacks.Nodes.length ≤ 788 ∧ e.Stacks.Nodes.length ≤ 2500000 ∧ f.Stacks.Nodes.length ≤ 1000 ∧ g.Stacks.Nodes.length ≤ 1568 ∧ h.Stacks.Nodes.length ≤ 784 ∧
      frSum (entriesOf p ++ entriesOf q) ≤ 5000 ∧ frSum (entriesOf q ++ entriesOf p) ≤ 5000 ∧ frSum (entriesOf a ++ entriesOf r) ≤ 5000000 ∧ frSum (entriesOf q ++ entriesOf r) ≤ 5000 ∧ frSum (entriesOf p ++ entriesOf d) ≤ 5000000 ∧ frSum (entriesOf p ++ entriesOf p) ≤ 5000 ∧ frSum (entriesOf p) ≤ 5000 ∧ (([p, q, r] : List DProfile).map szProfile).sum ≤ 1048576 ∧ frSum [⟨⟨#[109, 97, 105, 110, 58, 49, 59, 102, 58, 53]⟩, n⟩] ≤ 2 := by
  obtain ⟨hpo, hpt, hpn⟩ := hp
  obtain ⟨hqo, hqt, hqn⟩ := hq
  have tp := (total_bd hpo).1
  have tq := (total_bd hqo).1
  obtain ⟨ro, tr, nr, fr⟩ := one_spec (n := n) (by omega) (by omega)
  obtain ⟨r, rb, hr⟩ : ∃ r rb, profR [⟨⟨#[109, 97, 105, 110, 58, 49, 59, 102, 58, 53]⟩, n⟩] = (r, rb) := ⟨_, _, rfl⟩
  rw [hr] at ro tr nr
  simp only at ro tr nr
  have sq : ∀ {k m : Nat}, k ≤ m → k * k ≤ m * m := fun h => Nat.mul_le_mul h h
  have pp := sq hpn
  have qq := sq hqn
  have rr := sq nr
  have mk : ∀ {x y : DProfile}, profileOk x = true → profileOk y = true → totalOf x + totalOf y ≤ 100000 → ∃ z, mergeP x y = (z, true) ∧ profileOk z = true ∧ totalOf z = totalOf x + totalOf y ∧ (∀ m, countOf z m = countOf x m + countOf y m) ∧ z.Stacks.Nodes.length ≤ x.Stacks.Nodes.length * x.Stacks.Nodes.length + y.Stacks.Nodes.length * y.Stacks.Nodes.length := by
    intro x y hx hy ht
    obtain ⟨k1, k2, k3, k4⟩ := merge_spec hx hy (by omega)
    exact ⟨(mergeP x y).1, by rw [← k1], k2, k3, k4, merge_nodes⟩
  obtain ⟨a, ha, oa, ta, ca, na⟩ := mk hpo hqo (by omega)
  obtain ⟨b, hb, ob, tb, cb, nb⟩ := mk hqo hpo (by omega)
  obtain ⟨c, hc, oc, tc, cc, nc⟩ := mk oa ro (by omega)
  obtain ⟨d, hd, od, td, cd, nd⟩ := mk hqo ro (by omega)
  obtain ⟨e, he, oe, te, ce, ne⟩ := mk hpo od (by omega)
  obtain ⟨g, hg, og, tg, cg, ng⟩ := mk hpo hpo (by omega)
  obtain ⟨z, hz, oz, tz, cz, nz⟩ := mk emptyP_ok hpo (by rw [total_empty]; omega)
  obtain ⟨y, hy, oy, ty, cy, ny⟩ := mk oz hqo (by rw [tz, total_empty]; omega)
  obtain ⟨f, hf, of, tf, cf, nf⟩ := mk oy ro (by rw [ty, tz, total_empty]; omega)
  obtain ⟨k1, k2, k3, k4⟩ := scale_spec (p := p) (n := 2) hpo (by decide) (by omega)
  have hall : mergeAllP [p, q, r] = (f, true) := mergeAllP_yes (by rw [mergeAllL_yes hz, mergeAllL_yes hy, mergeAllL_yes hf]; rfl)
  have hsz : (([p, q, r] : List DProfile).map szProfile).sum ≤ 1000 := by
    have s1 := sz_small hpo hpn
    have s2 := sz_small hqo hqn
    have s3 := sz_small ro nr
    simp only [List.map_cons, List.map_nil, List.sum_cons, List.sum_nil]
    omega
  have hfl := (mergeAllP_len [p, q, r]).1
  rw [hall] at hfl
  simp only at hfl
  have aa := sq (show a.Stacks.Nodes.length ≤ 1568 by omega)
  have dd := sq (show d.Stacks.Nodes.length ≤ 788 by omega)
  have f1 := fr_two p q
  have f2 := fr_two q p
  have f3 := fr_two a r
  have f4 := fr_two q r
  have f5 := fr_two p d
  have f6 := fr_two p p
  have f7 := frSum_ents p
  have hsc : (scaleP p 2).1.Stacks.Nodes.length ≤ 784 := by
    have := profR_len ((entriesOf p).map (sclE 2))
    rw [frSum_scl] at this
    unfold scaleP
    split
    · omega
    · exact Nat.zero_le _
  refine ⟨r, a, b, c, d, e, f, g, (scaleP p 2).1, rb, true, true, true, hr, ha, hb, hc, hd, he, hall, hg, by rw [← k1], same_mk oa ob fun m => ?_, same_mk oc oe fun m => ?_, same_mk oc of fun m => ?_, same_mk og k2 fun m => ?_, ta, tp, hpt, tq, hqt, nr, by omega, by omega, by omega, by omega, by omega, by omega, by omega, hsc, by omega, by omega, by omega, by omega, by omega, by omega, by omega, by omega, fr⟩
  · rw [ca, cb]; omega
  · rw [cc, ca, ce, cd]; omega
  · rw [cc, ca, cf, cy, cz, countOf_empty]; omega
  · rw [cg, k4]; omega
end Go.Proofs.YtdlkoffandhclaaGreatDoor
namespace Go.Proofs.YtdlkoffandhclaaGreatDoor
open Go.RowKit
/-- a profile's box -/
structure PB (W : World) (n : Nat) (p : DProfile) (A0 : Option Addr) (c0 : Nat) (A1 : Option Addr) (c1 : Nat) : Prop where
  blk : W.heap[n]? = some (.cells #[.slice A0 p.Stacks.Nodes.length c0, .slice A1 p.Counts.length c1] 33 (0, 0))
  rd : tProfile.R W W.heap.size [.slice A0 p.Stacks.Nodes.length c0, .slice A1 p.Counts.length c1] p
theorem PB.up {W W' : World} {n : Nat} {p : DProfile} {A0 : Option Addr} {c0 : Nat} {A1 : Option Addr} {c1 : Nat} (h : PB W n p A0 c0 A1 c1) (hg : Gro W W') : PB W' n p A0 c0 A1 c1 := ⟨grow_blk h.blk hg, Ty.up _ h.rd hg⟩
theorem PB.new {X : World} {p : DProfile} {A0 : Option Addr} {c0 : Nat} {A1 : Option Addr} {c1 : Nat} (h : tProfile.R X X.heap.size [.slice A0 p.Stacks.Nodes.length c0, .slice A1 p.Counts.length c1] p) {n : Nat} (hn : X.heap.size = n) :
    PB (X.alloc (.cells #[.slice A0 p.Stacks.Nodes.length c0, .slice A1 p.Counts.length c1] 33)) n p A0 c0 A1 c1 := by
  subst hn
  exact ⟨heap_alloc_new X _, Ty.up _ h ((Gro.refl _).alloc _)⟩
theorem PB.cells {W : World} {n : Nat} {p : DProfile} {A0 : Option Addr} {c0 : Nat} {A1 : Option Addr} {c1 : Nat} (h : PB W n p A0 c0 A1 c1) : W.cell? ⟨n, 0, none⟩ = some (.slice A0 p.Stacks.Nodes.length c0) ∧ W.cell? ⟨n, 1, none⟩ = some (.slice A1 p.Counts.length c1) ∧ n < W.heap.size := by
  obtain ⟨h0, h1, _, _, h2⟩ := box2 h.blk
  exact ⟨h0, h1, h2⟩
theorem PB.nodes {W : World} {n : Nat} {p : DProfile} {A0 : Option Addr} {c0 : Nat} {A1 : Option Addr} {c1 : Nat} (h : PB W n p A0 c0 A1 c1) : (tNode.sl 92).R W W.heap.size [.slice A0 p.Stacks.Nodes.length c0] p.Stacks.Nodes := (rdProf h.rd).1
theorem PB.counts {W : World} {n : Nat} {p : DProfile} {A0 : Option Addr} {c0 : Nat} {A1 : Option Addr} {c1 : Nat} (h : PB W n p A0 c0 A1 c1) : (intT.sl 3).R W W.heap.size [.slice A1 p.Counts.length c1] p.Counts := (rdProf h.rd).2
/-- a literal list of three profiles -/
theorem three_R {W : World} {g : Nat} {p q r : DProfile} {A0 A1 A2 A3 A4 A5 : Option Addr} {c0 c1 c2 c3 c4 c5 : Nat} (hg : W.heap[g]? = some (.cells #[.slice A0 p.Stacks.Nodes.length c0, .slice A1 p.Counts.length c1, .slice A2 q.Stacks.Nodes.length c2, .slice A3 q.Counts.length c3, .slice A4 r.Stacks.Nodes.length c4, .slice A5 r.Counts.length c5] 33 (0, 0)))
    (hp : tProfile.R W W.heap.size [.slice A0 p.Stacks.Nodes.length c0, .slice A1 p.Counts.length c1] p) (hq : tProfile.R W W.heap.size [.slice A2 q.Stacks.Nodes.length c2, .slice A3 q.Counts.length c3] q) (hr : tProfile.R W W.heap.size [.slice A4 r.Stacks.Nodes.length c4, .slice A5 r.Counts.length c5] r) :
    (tProfile.sl 33).R W W.heap.size [.slice (some ⟨g, 0, none⟩) ([p, q, r] : List DProfile).length 3] [p, q, r] := by
  refine ⟨_, 3, rfl, by simp, by omega, by simp, fun _ => ⟨g, 0, rfl, (Array.getElem?_eq_some_iff.1 hg).1, fun i x hx => ?_⟩⟩
  have hc : ∀ j, W.cell? ⟨g, j, none⟩ = (#[Value.slice A0 p.Stacks.Nodes.length c0, .slice A1 p.Counts.length c1, .slice A2 q.Stacks.Nodes.length c2, .slice A3 q.Counts.length c3, .slice A4 r.Stacks.Nodes.length c4, .slice A5 r.Counts.length c5] : Array Value)[j]? := fun j => cell_of_row W g _ _ _ (0, 0) hg
  have hs : tProfile.size = 2 := rfl
  match i, hx with
  | 0, hx =>
    simp only [List.getElem?_cons_zero, Option.some.injEq] at hx
    subst hx
    refine ⟨_, hp, fun j u hu => ?_⟩
    rw [hc, hs]
    match j, hu with
    | 0, hu => simpa using hu
    | 1, hu => simpa using hu
    | j + 2, hu => simp at hu
  | 1, hx =>
    simp only [List.getElem?_cons_succ, List.getElem?_cons_zero, Option.some.injEq] at hx
    subst hx
    refine ⟨_, hq, fun j u hu => ?_⟩
    rw [hc, hs]
    match j, hu with
    | 0, hu => simpa using hu
    | 1, hu => simpa using hu
    | j + 2, hu => simp at hu
  | 2, hx =>
    simp only [List.getElem?_cons_succ, List.getElem?_cons_zero, Option.some.injEq] at hx
    subst hx
    refine ⟨_, hr, fun j u hu => ?_⟩
    rw [hc, hs]
    match j, hu with
    | 0, hu => simpa using hu
    | 1, hu => simpa using hu
    | j + 2, hu => simp at hu
  | i + 3, hx => simp at hx
end Go.Proofs.YtdlkoffandhclaaGreatDoor
namespace Go.Proofs.YtdlkoffandhclaaGreatDoor
open Go.RowKit
end Go.Proofs.YtdlkoffandhclaaGreatDoor
namespace Go.Proofs.YtdlkoffandhclaaGreatDoor
open Go.RowKit
theorem own_sub {α : Type} {T : Ty α} {e : TypeId} {w : World} {A : Option Addr} {n c : Nat} {xs : List α} {S : List Nat} (h : (T.sl e).O w [.slice A n c] xs S) (hS : S.Nodup) {k : Nat} {x : α} (hx : xs[k]? = some x) :
    ∃ g ec Sc, A = some ⟨g, 0, none⟩ ∧ g ∈ S ∧ g < w.heap.size ∧ g ∉ Sc ∧ (∀ j ∈ Sc, j ∈ S) ∧ Sc.Nodup ∧ T.O w ec x Sc ∧ (∀ j u, ec[j]? = some u → w.cell? ⟨g, k * T.size + j, none⟩ = some u) ∧
      (∀ w' y, T.O w' ec y Sc → OnlyS Sc w w' → (T.sl e).O w' [.slice A n c] (xs.set k y) S) := by
  obtain ⟨A', c', ecs, S', h1, h2, h3, rfl⟩ := h
  injection h1 with h1 _
  injection h1 with hA hn hc
  subst hA hn hc
  have hk : k < xs.length := (List.getElem?_eq_some_iff.1 hx).1
  obtain ⟨a, ec, b, Sa, Sc, Sb, rfl, rfl, hl, ha, hO, hb⟩ := Rows.part h3 hx
  obtain ⟨hlen, hrest⟩ := h2
  rcases hrest with ⟨_, hn⟩ | ⟨g, cap, cur, hv, hbase, hg, hnc, hcm, hcs, htake⟩
  · omega
  · injection hv with hA _ hc
    subst hA hc
    have hgl : g < w.heap.size := (Array.getElem?_eq_some_iff.1 hg).1
    simp only [blockOf, List.singleton_append, List.nodup_cons, List.nodup_append, List.mem_append, not_or] at hS
    obtain ⟨⟨hga, hgc, hgb⟩, hna, ⟨hncd, hnb, hdcb⟩, hda⟩ := hS
    have hcell : ∀ (j : Nat) (u : Value), (a ++ (ec ++ b))[j]? = some u → cur[j]? = some u := by
      intro j u hu
      rw [← htake, List.getElem?_take] at hu
      split at hu
      · simpa using hu
      · cases hu
    refine ⟨g, ec, Sc, rfl, by simp [blockOf], hgl, hgc, fun j hj => by simp [hj], hncd, hO, fun j u hu => ?_, fun w' y hy hon => ?_⟩
    · rw [cell_of_row w g _ cur e (0, 0) hg]
      apply hcell
      rw [List.getElem?_append_right (by omega), hl, Nat.add_sub_cancel_left, List.getElem?_append_left (List.getElem?_eq_some_iff.1 hu).1]
      exact hu
    · have hlt : ∀ {S : List Nat} {ecs : List Value} {xs : List α}, Rows T w ecs xs S → ∀ i ∈ S, i < w.heap.size := fun h i hi => Rows.lt h i hi
      refine ⟨some ⟨g, 0, none⟩, c, a ++ (ec ++ b), _, by rw [List.length_set], ⟨by rw [List.length_set]; exact hlen, .inr ⟨g, c, cur, by rw [List.length_set], hbase, (hon.block g hgl hgc).trans hg, by simpa using hnc, hcm, hcs, by rw [List.length_set]; exact htake⟩⟩, Rows.join hx (Rows.keep ha ?_) hy (Rows.keep hb ?_), rfl⟩
      · exact fun i hi => hon.block i (hlt ha i hi) (fun hm => hda i hi i (.inl hm) rfl)
      · exact fun i hi => hon.block i (hlt hb i hi) (fun hm => hdcb i hm i hi rfl)
end Go.Proofs.YtdlkoffandhclaaGreatDoor
namespace Go.Proofs.YtdlkoffandhclaaGreatDoor
open Go.RowKit
theorem atProfile {e : TypeId} {w : World} {B : Nat} {A : Option Addr} {n c : Nat} {xs : List DProfile} (h : (tProfile.sl e).R w B [.slice A n c] xs) {k : Nat} (hk : k < xs.length) :
    ∃ g off x A0 c0 A1 c1, A = some ⟨g, off, none⟩ ∧ g < B ∧ xs[k]? = some x ∧ w.cell? ⟨g, off + k * 2, none⟩ = some (.slice A0 x.Stacks.Nodes.length c0) ∧ w.cell? ⟨g, off + k * 2 + 1, none⟩ = some (.slice A1 x.Counts.length c1) ∧ (tNode.sl 92).R w B [.slice A0 x.Stacks.Nodes.length c0] x.Stacks.Nodes ∧ (intT.sl 3).R w B [.slice A1 x.Counts.length c1] x.Counts := by
  obtain ⟨g, off, x, ec, h1, hB, h2, h3, h4⟩ := elem_at h hk
  obtain ⟨A0, c0, A1, c1, rfl, hf⟩ := tProfile_R h3
  exact ⟨g, off, x, A0, c0, A1, c1, h1, hB, h2, h4 0 _ rfl, h4 1 _ rfl, hf⟩
def mkProfileS (xs : List DProfile) (k : Int) : List DProfile := mkL mkProfile cntProfile xs k
def cntProfileS (xs : List DProfile) : Nat := cntL cntProfile xs
theorem mkProfileS_length (xs : List DProfile) (k : Int) : (mkProfileS xs k).length = xs.length := mkL_length _ _
theorem toProfileS_info : (Tryz.prog.info? 33).map (fun i => (i.zero, i.size, i.bytes)) = some (some (.agg #[.slice none 0 0, .slice none 0 0]), 2, 48) := by kernel_rfl
theorem elProfile : Elem Tryz.prog 59 33 tProfile 48 := by
  obtain ⟨i0, hi, hz0, hz1, hz2⟩ := info_parts toProfileS_info
  exact ⟨Tryz.underlying59, ⟨i0, _, hi, hz0, hz1, hz2, rfl⟩, by decide⟩
end Go.Proofs.YtdlkoffandhclaaGreatDoor
namespace Go.Proofs.YtdlkoffandhclaaGreatDoor
open Go.RowKit
set_option maxRecDepth 100000 in
set_option maxHeartbeats 8000000 in
theorem mergeAll_i {l : List DProfile} {m : Int} {w : World} {A : Option Addr} {c : Nat} (hx : (tProfile.sl 33).R w w.heap.size [.slice A l.length c] l) (hsz : (l.map szProfile).sum ≤ 1048576) (hlen : w.cell? ⟨0, 0, none⟩ = some (.int .i64 m)) :
    Calls Tryz.prog 27 #[.slice A l.length c] w (RetProfileBool (mergeAllP l) w) := by
  have HM := Lib.hid hlen
  clear hlen
  obtain ⟨_, _, hv, hxl, hcm⟩ := sl_at hx
  injection hv with hA _ hc
  subst hA hc
  obtain ⟨N, hN⟩ : ∃ N, (l.map szProfile).sum = N := ⟨_, rfl⟩
  rw [hN] at hsz
  have HN := Lib.hid hN
  clear hN
  go_enter Tryz.func27, Tryz.ntmps27
  go_wp2_with (fail)
  go_loopw [12] (fun b wr => ∃ (j r : Nat) (p : DProfile) (A0 : Option Addr) (c0 : Nat) (A1 : Option Addr) (c1 : Nat), b = .int .i64 j ∧ j ≤ l.length ∧ 3 * p.Stacks.Nodes.length + r ≤ N ∧ Hid (((l.drop j).map szProfile).sum = r) ∧ Hid (profileOk p = true) ∧ Hid (mergeAllL (l.drop j) p = mergeAllL l emptyP) ∧ Hid (Gro w wr) ∧ w.heap.size + 2 ≤ wr.heap.size ∧ Hid (wr.heap[w.heap.size]? = some (.cells #[.slice none 0 0, .slice none 0 0] 33 (0, 0))) ∧ Hid (wr.heap[w.heap.size + 1]? = some (.cells #[.slice A0 p.Stacks.Nodes.length c0, .slice A1 p.Counts.length c1] 33 (0, 0))) ∧ Hid (FrN tProfile (w.heap.size + 2) wr.heap.size wr [.slice A0 p.Stacks.Nodes.length c0, .slice A1 p.Counts.length c1] p)) (fun b _ => l.length - (intOf b).toNat)
  case atStart =>
    have e2 : ((w.alloc (.cells #[.slice none 0 0, .slice none 0 0] 33)).alloc (.cells #[.slice none 0 0, .slice none 0 0] 33)).heap[w.heap.size]? = some (.cells #[.slice none 0 0, .slice none 0 0] 33 (0, 0)) := (((Gro.refl _).alloc _).block (by simp)).trans (heap_alloc_new w _)
    have e3 : ((w.alloc (.cells #[.slice none 0 0, .slice none 0 0] 33)).alloc (.cells #[.slice none 0 0, .slice none 0 0] 33)).heap[w.heap.size + 1]? = some (.cells #[.slice none 0 0, .slice none 0 0] 33 (0, 0)) := by have := heap_alloc_new (w.alloc (.cells #[.slice none 0 0, .slice none 0 0] 33)) (.cells #[.slice none 0 0, .slice none 0 0] 33); simpa using this
    refine ⟨0, N, emptyP, none, 0, none, 0, rfl, Nat.zero_le _, by show 3 * 0 + N ≤ N; omega, Lib.hid (by simpa using HN.out), Lib.hid emptyP_ok, Lib.hid rfl, Lib.hid (by repeat (first | with_reducible exact Gro.refl _ | with_reducible exact Gro.refl_drew _ _ _ | with_reducible exact Gro.refl_drewN _ _ _ _ | assumption | with_reducible apply Gro.more | with_reducible apply Gro.alloc | with_reducible apply Gro.drew | with_reducible apply Gro.drewN)), by simp, Lib.hid e2, Lib.hid e3, Lib.hid ?_⟩
    have h0 := fresh_emptyP ((w.alloc (.cells #[.slice none 0 0, .slice none 0 0] 33)).alloc (.cells #[.slice none 0 0, .slice none 0 0] 33)) ((w.alloc (.cells #[.slice none 0 0, .slice none 0 0] 33)).alloc (.cells #[.slice none 0 0, .slice none 0 0] 33))
    exact h0.frN.wide (by simp) (by simp)
  case round =>
    obtain ⟨j, r, p, A0, c0, A1, c1, rfl, hj, hb, hr, hpok, HT, hG, hz, hb2, hb3, hF⟩ := hrel
    obtain ⟨q0, q1, qf0, qf1, ql⟩ := box2 hb3.out
    obtain ⟨y0, y1, yf0, yf1, yl⟩ := box2 hb2.out
    by_cases hlt : j < l.length
    · obtain ⟨g, off, x, A5, c5, A6, c6, rfl, hgb, hxk, hx0, hx1, bx0, bx1⟩ := atProfile hx hlt
      have HD := Lib.hid (drop_at hxk)
      have hr2 : szProfile x + ((l.drop (j + 1)).map szProfile).sum = r := by rw [← hr.out, HD.out]; simp
      obtain ⟨r2, hr3⟩ : ∃ r2, ((l.drop (j + 1)).map szProfile).sum = r2 := ⟨_, rfl⟩
      rw [hr3] at hr2
      have HR3 := Lib.hid hr3
      obtain ⟨hm1, hm2, hm3⟩ := mrg_bd (p := p) (x := x) hpok.out (by omega)
      have hcx0 := cell_up hG.out hx0
      have hcx1 := cell_up hG.out hx1
      have hgz : g < wr.heap.size := by omega
      have hr4 : szProfile x + r2 ≤ r := Nat.le_of_eq hr2
      obtain ⟨q, ok, hq⟩ : ∃ q ok, mergeP p x = (q, ok) := ⟨_, _, rfl⟩
      have HR := Lib.hid hq
      clear hr2 hr3 hxk hx0 hx1 hx
      cases ok with
      | false =>
        have HB := Lib.hid (mergeAllP_bad (l := l) (by rw [← HT.out, HD.out, mergeAllL_no hq]))
        clear hq
        go_wp2_with (fail)
        refine (merge_i (p := p) (q := x) (Ty.up _ (rdProf hF.out.read).1 (by repeat (first | with_reducible exact Gro.refl _ | with_reducible exact Gro.refl_drew _ _ _ | with_reducible exact Gro.refl_drewN _ _ _ _ | assumption | with_reducible apply Gro.more | with_reducible apply Gro.alloc | with_reducible apply Gro.drew | with_reducible apply Gro.drewN))) (Ty.up _ (rdProf hF.out.read).2 (by repeat (first | with_reducible exact Gro.refl _ | with_reducible exact Gro.refl_drew _ _ _ | with_reducible exact Gro.refl_drewN _ _ _ _ | assumption | with_reducible apply Gro.more | with_reducible apply Gro.alloc | with_reducible apply Gro.drew | with_reducible apply Gro.drewN))) (by omega) (Ty.up _ bx0 (hG.out.trans (by repeat (first | with_reducible exact Gro.refl _ | with_reducible exact Gro.refl_drew _ _ _ | with_reducible exact Gro.refl_drewN _ _ _ _ | assumption | with_reducible apply Gro.more | with_reducible apply Gro.alloc | with_reducible apply Gro.drew | with_reducible apply Gro.drewN)))) (Ty.up _ bx1 (hG.out.trans (by repeat (first | with_reducible exact Gro.refl _ | with_reducible exact Gro.refl_drew _ _ _ | with_reducible exact Gro.refl_drewN _ _ _ _ | assumption | with_reducible apply Gro.more | with_reducible apply Gro.alloc | with_reducible apply Gro.drew | with_reducible apply Gro.drewN)))) (by omega) (by omega) (Gro.cell (hG.out.trans (by repeat (first | with_reducible exact Gro.refl _ | with_reducible exact Gro.refl_drew _ _ _ | with_reducible exact Gro.refl_drewN _ _ _ _ | assumption | with_reducible apply Gro.more | with_reducible apply Gro.alloc | with_reducible apply Gro.drew | with_reducible apply Gro.drewN))) HM.out)).mono ?_
        rw [HR.out]
        rintro e W7 ⟨A7, c7, A8, c8, rfl, hF7, os7, d7, rfl⟩
        go_wp2_with (fail)
        all_goals
          have h2 := set2 hb2.out (.slice none 0 0) (.slice none 0 0)
          first
            | (have hy := box2 (grow_blk h2.1 (show Gro _ ((gro (((wr.setCell ⟨w.heap.size, 0, none⟩ (.slice none 0 0)).setCell ⟨w.heap.size, 1, none⟩ (.slice none 0 0)).alloc (.cells #[.slice A5 x.Stacks.Nodes.length c5, .slice A6 x.Counts.length c6] 33)) os7 d7).alloc (.cells #[.slice A7 q.Stacks.Nodes.length c7, .slice A8 q.Counts.length c8] 33)) from (by repeat (first | with_reducible exact Gro.refl _ | with_reducible exact Gro.refl_drew _ _ _ | with_reducible exact Gro.refl_drewN _ _ _ _ | assumption | with_reducible apply Gro.more | with_reducible apply Gro.alloc | with_reducible apply Gro.drew | with_reducible apply Gro.drewN))))
               exact bodyPost_ret (v := .tuple #[.agg #[.slice none 0 0, .slice none 0 0], .bool false]) (by simp [results, Tryz.results27, go_sem, hy]) rfl (ret_profile_bool HB.out (fresh_emptyP _ _) (Gro.trans (h2.2.gro hG.out (fun b hb => by simp at hb; omega)) (by repeat (first | with_reducible exact Gro.refl _ | with_reducible exact Gro.refl_drew _ _ _ | with_reducible exact Gro.refl_drewN _ _ _ _ | assumption | with_reducible apply Gro.more | with_reducible apply Gro.alloc | with_reducible apply Gro.drew | with_reducible apply Gro.drewN)))))
      | true =>
        have hmk := mrg_ok hq
        have HMK := Lib.hid hmk.1
        have hmn := hmk.2
        have HL := Lib.hid (show mergeAllL (l.drop (j + 1)) q = mergeAllL l emptyP from by rw [← HT.out, HD.out, mergeAllL_yes hq])
        clear hq hmk
        go_wp2_with (fail)
        refine (merge_i (p := p) (q := x) (Ty.up _ (rdProf hF.out.read).1 (by repeat (first | with_reducible exact Gro.refl _ | with_reducible exact Gro.refl_drew _ _ _ | with_reducible exact Gro.refl_drewN _ _ _ _ | assumption | with_reducible apply Gro.more | with_reducible apply Gro.alloc | with_reducible apply Gro.drew | with_reducible apply Gro.drewN))) (Ty.up _ (rdProf hF.out.read).2 (by repeat (first | with_reducible exact Gro.refl _ | with_reducible exact Gro.refl_drew _ _ _ | with_reducible exact Gro.refl_drewN _ _ _ _ | assumption | with_reducible apply Gro.more | with_reducible apply Gro.alloc | with_reducible apply Gro.drew | with_reducible apply Gro.drewN))) (by omega) (Ty.up _ bx0 (hG.out.trans (by repeat (first | with_reducible exact Gro.refl _ | with_reducible exact Gro.refl_drew _ _ _ | with_reducible exact Gro.refl_drewN _ _ _ _ | assumption | with_reducible apply Gro.more | with_reducible apply Gro.alloc | with_reducible apply Gro.drew | with_reducible apply Gro.drewN)))) (Ty.up _ bx1 (hG.out.trans (by repeat (first | with_reducible exact Gro.refl _ | with_reducible exact Gro.refl_drew _ _ _ | with_reducible exact Gro.refl_drewN _ _ _ _ | assumption | with_reducible apply Gro.more | with_reducible apply Gro.alloc | with_reducible apply Gro.drew | with_reducible apply Gro.drewN)))) (by omega) (by omega) (Gro.cell (hG.out.trans (by repeat (first | with_reducible exact Gro.refl _ | with_reducible exact Gro.refl_drew _ _ _ | with_reducible exact Gro.refl_drewN _ _ _ _ | assumption | with_reducible apply Gro.more | with_reducible apply Gro.alloc | with_reducible apply Gro.drew | with_reducible apply Gro.drewN))) HM.out)).mono ?_
        rw [HR.out]
        rintro e W7 ⟨A7, c7, A8, c8, rfl, hF7, os7, d7, rfl⟩
        go_wp2_with (fail)
        all_goals go_roundw
        all_goals try (case measure => simp [intOf]; omega)
        all_goals
          have h2 := set2 hb3.out (.slice A7 q.Stacks.Nodes.length c7) (.slice A8 q.Counts.length c8)
          have hz2 := h2.2.size
          refine ⟨j + 1, r2, q, A7, c7, A8, c8, by go_num, by omega, by omega, HR3, HMK, HL, Lib.hid (Gro.trans (h2.2.gro hG.out (fun b hb => by simp at hb; omega)) (by repeat (first | with_reducible exact Gro.refl _ | with_reducible exact Gro.refl_drew _ _ _ | with_reducible exact Gro.refl_drewN _ _ _ _ | assumption | with_reducible apply Gro.more | with_reducible apply Gro.alloc | with_reducible apply Gro.drew | with_reducible apply Gro.drewN))), by simp; omega, Lib.hid (grow_blk ((h2.2.block w.heap.size (by omega) (by simp)).trans hb2.out) (by repeat (first | with_reducible exact Gro.refl _ | with_reducible exact Gro.refl_drew _ _ _ | with_reducible exact Gro.refl_drewN _ _ _ _ | assumption | with_reducible apply Gro.more | with_reducible apply Gro.alloc | with_reducible apply Gro.drew | with_reducible apply Gro.drewN))), Lib.hid (grow_blk h2.1 (by repeat (first | with_reducible exact Gro.refl _ | with_reducible exact Gro.refl_drew _ _ _ | with_reducible exact Gro.refl_drewN _ _ _ _ | assumption | with_reducible apply Gro.more | with_reducible apply Gro.alloc | with_reducible apply Gro.drew | with_reducible apply Gro.drewN))), Lib.hid ?_⟩
          first
            | exact ((FrN.same (w2 := gro (((wr.setCell ⟨w.heap.size + 1, 0, none⟩ (.slice A7 q.Stacks.Nodes.length c7)).setCell ⟨w.heap.size + 1, 1, none⟩ (.slice A8 q.Counts.length c8)).alloc (.cells #[.slice A5 x.Stacks.Nodes.length c5, .slice A6 x.Counts.length c6] 33)) os7 d7) hF7.frN (Same.base (by simp) (Nat.le_refl _))).gro (by (repeat (first | with_reducible exact Gro.refl _ | with_reducible exact Gro.refl_drew _ _ _ | with_reducible exact Gro.refl_drewN _ _ _ _ | assumption | with_reducible apply Gro.more | with_reducible apply Gro.alloc | with_reducible apply Gro.drew | with_reducible apply Gro.drewN)); done)).wide (by first | omega | (simp; omega)) (by simp)
    · obtain rfl : j = l.length := by omega
      have HE := Lib.hid (mergeAllP_yes (l := l) (p := p) (by rw [← HT.out, List.drop_length]; rfl))
      have h2 := set2 hb2.out (.slice A0 p.Stacks.Nodes.length c0) (.slice A1 p.Counts.length c1)
      have ha := box2 h2.1
      go_wp2_with (fail)
      refine bodyPost_ret (v := .tuple #[.agg #[.slice A0 p.Stacks.Nodes.length c0, .slice A1 p.Counts.length c1], .bool true]) (by simp [results, Tryz.results27, go_sem, ha]) rfl (ret_profile_bool HE.out (((hF.out.only h2.2 (by omega)).fresh (by omega))) (h2.2.gro hG.out (fun b hb => by simp at hb; omega)))
theorem cntP_sz (l : List DProfile) : cntProfileS l ≤ 3 * (l.map szProfile).sum := by
  unfold cntProfileS cntL
  induction l with
  | nil => simp
  | cons x l ih =>
    simp only [List.map_cons, List.sum_cons]
    have h1 : cntProfile x = x.Stacks.Nodes.length * 3 + x.Counts.length := rfl
    have h2 : szProfile x = x.Stacks.Nodes.length + (x.Stacks.Nodes.map szNode).sum + x.Counts.length := rfl
    omega
end Go.Proofs.YtdlkoffandhclaaGreatDoor
namespace Go.Proofs.YtdlkoffandhclaaGreatDoor
open Go.RowKit
theorem returns_and_shaped {H : Type} {enc : TypeId × Value → H} {a : Assume} {C : Checked} {os : Os} {f : FuncId} {fn : Func} {s : ChangeSpec} {conds : List PathCond} {apart fresh handsOn again : Bool} {X : World → Array Value → Prop}
    (hX : ∀ (w w' : World) (args : Array Value), w.heap = w'.heap → X w args → X w' args)
    (own : ownKnob C.prog.godebug = none) (started : os.Started) (noInit : C.prog.inits.idxOf? f = none) (hfn : C.prog.funcs[f]? = some fn)
    (witness : ∃ (w : World) (tape : Tape) (i : Input), w.os = os ∧ (w.forCall tape i).Shaped C.prog ∧ i.vars = [] ∧ Input.okWide C.prog (w.forCall tape i) .any w.heap.size f i ∧
      ((s.pre enc C.prog fn conds apart (w.forCall tape i).memory i.args ∧ X (w.forCall tape i).memory i.args) ∧ sizedMet enc C.prog fn (OpenSpec.ofChange s) apart (w.forCall tape i).memory i.args) ∧ a.holds C.prog (lone (Frame.enter C.prog f i.args .normal) [] (w.forCall tape i)))
    (contract : ∀ (W : World) (base : Nat) (args : Array Value) (ds gs : List (DataW H)) (before : List MemPlace),
      (∀ (j : Nat) t v, fn.params[j]? = some t → args[j]? = some v → Value.okWide C.prog W .any base t v) →
      DataW.Whole enc C.prog fn.params.toList s.vars apart W args.toList ds gs before →
      conds.all (PathCond.test C.prog ⟨fn.params.toList, ds, s.plain.varTypes C.prog, gs⟩) = true →
      (DataW.weightsEach C.prog (fn.params.toList ++ s.plain.varTypes C.prog) (ds ++ gs)).all (· ≤ reachBytes) = true → X W args → W.ShapedOpen C.prog →
      a.holds C.prog (lone (Frame.enter C.prog f args .normal) [] W) →
      Calls C.prog f args W fun e W' => ∃ v, e = .returned v ∧ s.post enc C.prog fn apart fresh handsOn again W args v W') :
    ReturnsInHanded a C os f .any (fun w args => (s.pre enc C.prog fn conds apart w args ∧ X w args) ∧ sizedMet enc C.prog fn (OpenSpec.ofChange s) apart w args) (s.post enc C.prog fn apart fresh handsOn again) := by
  refine returnsInHanded_of_calls own started noInit witness ?_
  intro w tape i _ hsh _ hok hpre hholds
  obtain ⟨_, _, _, fn', hfn', _, _, _, _, hval⟩ := hok
  have e : fn' = fn := Option.some.inj (hfn'.symm.trans hfn)
  subst e
  obtain ⟨⟨⟨ds, gs, before, hw, hc⟩, hx⟩, hz⟩ := hpre
  have hw' := DataW.Whole.of_heap (w' := w.forCall tape i) (by rfl) hw
  refine (contract (w.forCall tape i) w.heap.size i.args ds gs before hval hw' hc (hz.weights hw) (hX _ _ _ (by rfl) hx) hsh hholds).mono fun e W' ⟨v, he, hp⟩ => ?_
  subst he
  exact ChangeSpec.post_blind hp
theorem max_len {W : World} (h : W.ShapedOpen Tryz.prog) : ∃ m, W.cell? ⟨0, 0, none⟩ = some (.int .i64 m) := Tryz.laysM146.s1_3 W h
end Go.Proofs.YtdlkoffandhclaaGreatDoor
namespace Go.Proofs.YtdlkoffandhclaaGreatDoor.fnMerged
open Go.ChangeShapes Go.WideShapes Go.ChangeAt Go.RowKit
open Go.ChangeMaps (open_string shut_string)
theorem own : ownKnob Tryz.prog.godebug = none := by kernel_rfl
theorem laidOut : laidOutB Tryz.prog = true := by kernel_rfl
set_option maxRecDepth 100000 in
set_option maxHeartbeats 8000000 in
theorem walk (w : World) (v : Value) (xs : List UInt8) (hx : (byteT.sl 5).R w w.heap.size [v] xs) {m : Int} (hm : w.cell? ⟨0, 0, none⟩ = some (.int .i64 m)) :
    Calls Tryz.prog 6 #[v] w fun e w' => e = .returned (.bool true) ∧ Gro w w' := by
  have HM0 := Lib.hid hm
  clear hm
  obtain ⟨A, c, rfl, hxl, hcm⟩ := sl_at hx
  by_cases hb : xs.length ≤ 1048576
  case neg =>
    have hb2 := Lib.hid (show decide (1048576 < (xs.length : Int)) = true from decide_eq_true (by omega))
    go_enter Tryz.func6, Tryz.ntmps6
    go_wp2_with (go_at_call 15; refine (big_l _ _ _ _).mono ?_; rw [hb2.out]; rintro e w1 ⟨rfl, os1, d1, rfl⟩)
    go_ret
    exact ⟨rfl, (by repeat (first | with_reducible exact Gro.refl _ | with_reducible exact Gro.refl_drew _ _ _ | with_reducible exact Gro.refl_drewN _ _ _ _ | assumption | with_reducible apply Gro.more | with_reducible apply Gro.alloc | with_reducible apply Gro.drew | with_reducible apply Gro.drewN))⟩
  have hb2 := Lib.hid (show decide (1048576 < (xs.length : Int)) = false from decide_eq_false (by omega))
  obtain ⟨b0, hb0⟩ : ∃ b0, byteAt xs 0 = b0 := ⟨_, rfl⟩
  have hb0b := byteAt_lt xs 0
  rw [hb0] at hb0b
  have HB0 := Lib.hid hb0
  clear hb0
  go_enter Tryz.func6, Tryz.ntmps6
  go_wp2_with (go_at_call 15; refine (big_l _ _ _ _).mono ?_; rw [hb2.out]; rintro e w1 ⟨rfl, os1, d1, rfl⟩)
  refine (profs_s (Ty.up _ hx (by repeat (first | with_reducible exact Gro.refl _ | with_reducible exact Gro.refl_drew _ _ _ | with_reducible exact Gro.refl_drewN _ _ _ _ | assumption | with_reducible apply Gro.more | with_reducible apply Gro.alloc | with_reducible apply Gro.drew | with_reducible apply Gro.drewN))) (by omega)).mono ?_
  rintro e W2 ⟨p, q, Ap0, cp0, Ap1, cp1, Aq0, cq0, Aq1, cq1, rfl, hp, hq, hG2, hRp, hRq⟩
  have hGw : Gro w W2 := (Gro.more (Gro.refl w) os1 d1).trans hG2
  clear hG2
  have hpn := hp.2.2
  have hqn := hq.2.2
  obtain ⟨n, hn⟩ : ∃ n : Int, 1 + (b0 : Int) = n := ⟨_, rfl⟩
  have hn1 : IntKind.i64.wrap (1 + (b0 : Int)) = n := by rw [← hn]; exact IntWalk.i64_in _ ⟨by omega, by omega⟩
  have hnb : 1 ≤ n ∧ n ≤ 256 := by omega
  obtain ⟨r, a, b, c, d, e, f, g, h, ro, co, do_, eo, er, ea, eb, ec, ed, ee, ef, eg, eh, s1, s2, s3, s4, ht, tp0, tp1, tq0, tq1, nr, na, nb, nc, nd, ne, nf, ng, nh, f1, f2, f3, f4, f5, f6, f7, f8, f9⟩ := merged_all hp hq hnb.1 hnb.2
  have Er := Lib.hid er
  have Ea := Lib.hid ea
  have Eb := Lib.hid eb
  have Ec := Lib.hid ec
  have Ed := Lib.hid ed
  have Ee := Lib.hid ee
  have Ef := Lib.hid ef
  have Eg := Lib.hid eg
  have Eh := Lib.hid eh
  have S1 := Lib.hid s1
  have S2 := Lib.hid s2
  have S3 := Lib.hid s3
  have S4 := Lib.hid s4
  obtain ⟨Tp, hTp⟩ : ∃ Tp, totalOf p = Tp := ⟨_, rfl⟩
  obtain ⟨Tq, hTq⟩ : ∃ Tq, totalOf q = Tq := ⟨_, rfl⟩
  obtain ⟨Ta, hTa⟩ : ∃ Ta, totalOf a = Ta := ⟨_, rfl⟩
  rw [hTp] at ht tp0 tp1
  rw [hTq] at ht tq0 tq1
  rw [hTa] at ht
  have HTp := Lib.hid hTp
  have HTq := Lib.hid hTq
  have HTa := Lib.hid hTa
  have hw9 : IntKind.i64.wrap (Tp + Tq) = Ta := by rw [ht]; exact IntWalk.i64_in _ ⟨by omega, by omega⟩
  have hn64 : I64 n := ⟨by omega, by omega⟩
  clear er ea eb ec ed ee ef eg eh s1 s2 s3 s4 hp hq hn hnb hTp hTq hTa ht
  go_wp2_with (fail)
  obtain ⟨np, hnp⟩ : ∃ np, W2.heap.size = np := ⟨_, rfl⟩
  have Bp := (PB.new hRp hnp).up (show Gro _ ((W2.alloc (.cells #[.slice Ap0 p.Stacks.Nodes.length cp0, .slice Ap1 p.Counts.length cp1] 33)).alloc (.cells #[.slice Aq0 q.Stacks.Nodes.length cq0, .slice Aq1 q.Counts.length cq1] 33)) from (by repeat (first | with_reducible exact Gro.refl _ | with_reducible exact Gro.refl_drew _ _ _ | with_reducible exact Gro.refl_drewN _ _ _ _ | assumption | with_reducible apply Gro.more | with_reducible apply Gro.alloc | with_reducible apply Gro.drew | with_reducible apply Gro.drewN)))
  have Bq : PB ((W2.alloc (.cells #[.slice Ap0 p.Stacks.Nodes.length cp0, .slice Ap1 p.Counts.length cp1] 33)).alloc (.cells #[.slice Aq0 q.Stacks.Nodes.length cq0, .slice Aq1 q.Counts.length cq1] 33)) (np + 1) q Aq0 cq0 Aq1 cq1 := PB.new (Ty.up _ hRq (by repeat (first | with_reducible exact Gro.refl _ | with_reducible exact Gro.refl_drew _ _ _ | with_reducible exact Gro.refl_drewN _ _ _ _ | assumption | with_reducible apply Gro.more | with_reducible apply Gro.alloc | with_reducible apply Gro.drew | with_reducible apply Gro.drewN))) (by rw [World.size_alloc, hnp])
  have G0 : Gro w ((W2.alloc (.cells #[.slice Ap0 p.Stacks.Nodes.length cp0, .slice Ap1 p.Counts.length cp1] 33)).alloc (.cells #[.slice Aq0 q.Stacks.Nodes.length cq0, .slice Aq1 q.Counts.length cq1] 33)) := (by repeat (first | with_reducible exact Gro.refl _ | with_reducible exact Gro.refl_drew _ _ _ | with_reducible exact Gro.refl_drewN _ _ _ _ | assumption | with_reducible apply Gro.more | with_reducible apply Gro.alloc | with_reducible apply Gro.drew | with_reducible apply Gro.drewN))
  rw [hnp]
  generalize ((W2.alloc (.cells #[.slice Ap0 p.Stacks.Nodes.length cp0, .slice Ap1 p.Counts.length cp1] 33)).alloc (.cells #[.slice Aq0 q.Stacks.Nodes.length cq0, .slice Aq1 q.Counts.length cq1] 33)) = Z0 at Bp Bq G0 ⊢
  clear hRp hRq hGw hnp
  refine (at_z (z := 0) (b := b0) (Ty.up _ hx G0) 0 rfl HB0.out (by omega) (by omega)).mono ?_
  rintro e w1 ⟨rfl, os0, d0, rfl⟩
  obtain ⟨yp0, yp1, ypl⟩ := Bp.cells
  obtain ⟨yq0, yq1, yql⟩ := Bq.cells
  go_wp2_with (fail)
  have hR0 := (fresh_one (T := tEntry) (e := 48) flatEntry (W0 := gro Z0 os0 d0) (W := gro Z0 os0 d0) (W1 := w) (B := 0) (tEntry_mkR (x := ⟨⟨#[109, 97, 105, 110, 58, 49, 59, 102, 58, 53]⟩, n⟩) (by show (10 : Nat) ≤ _; omega) hn64) (Gro.refl _) rfl).read
  rw [gro_size] at hR0
  refine (profOf_s (l := [⟨⟨#[109, 97, 105, 110, 58, 49, 59, 102, 58, 53]⟩, n⟩]) hR0 (fun j e h => by
    have := List.mem_of_getElem? h
    rw [List.mem_singleton] at this
    subst this
    show (10 : Nat) ≤ _
    omega) (by have := f9; omega)).mono ?_
  rw [Er.out]
  rintro e w1 ⟨Ar0, cr0, Ar1, cr1, rfl, hF, os1, d1, rfl⟩
  go_wp2_with (fail)
  obtain ⟨nr, hnr⟩ : ∃ nr, ((gro Z0 os0 d0).alloc (.cells #[.string ⟨#[109, 97, 105, 110, 58, 49, 59, 102, 58, 53]⟩, .int .i64 n] 48)).heap.size + os1.size = nr := ⟨_, rfl⟩
  have Br' := PB.new (X := gro ((gro Z0 os0 d0).alloc (.cells #[.string ⟨#[109, 97, 105, 110, 58, 49, 59, 102, 58, 53]⟩, .int .i64 n] 48)) os1 d1) hF.read (n := nr) (by rw [gro_size]; exact hnr)
  have hG' : Gro Z0 ((gro ((gro Z0 os0 d0).alloc (.cells #[.string ⟨#[109, 97, 105, 110, 58, 49, 59, 102, 58, 53]⟩, .int .i64 n] 48)) os1 d1).alloc (.cells #[.slice Ar0 r.Stacks.Nodes.length cr0, .slice Ar1 r.Counts.length cr1] 33)) := (by repeat (first | with_reducible exact Gro.refl _ | with_reducible exact Gro.refl_drew _ _ _ | with_reducible exact Gro.refl_drewN _ _ _ _ | assumption | with_reducible apply Gro.more | with_reducible apply Gro.alloc | with_reducible apply Gro.drew | with_reducible apply Gro.drewN))
  have hs' : ((gro ((gro Z0 os0 d0).alloc (.cells #[.string ⟨#[109, 97, 105, 110, 58, 49, 59, 102, 58, 53]⟩, .int .i64 n] 48)) os1 d1).alloc (.cells #[.slice Ar0 r.Stacks.Nodes.length cr0, .slice Ar1 r.Counts.length cr1] 33)).heap.size = nr + 1 := by rw [World.size_alloc, gro_size, hnr]
  try simp only [World.size_alloc, gro_size] at hnr
  rw [hnr]
  have Bp' := Bp.up hG'
  have Bq' := Bq.up hG'
  have G' := G0.trans hG'
  clear yp0 yp1 ypl Bp yq0 yq1 yql Bq G0 hF
  generalize ((gro ((gro Z0 os0 d0).alloc (.cells #[.string ⟨#[109, 97, 105, 110, 58, 49, 59, 102, 58, 53]⟩, .int .i64 n] 48)) os1 d1).alloc (.cells #[.slice Ar0 r.Stacks.Nodes.length cr0, .slice Ar1 r.Counts.length cr1] 33)) = Z1 at Bp' Bq' Br' G' hs' ⊢
  clear hG' hnr
  have Bp := Bp'
  obtain ⟨yp0, yp1, ypl⟩ := Bp.cells
  have Bq := Bq'
  obtain ⟨yq0, yq1, yql⟩ := Bq.cells
  have Br := Br'
  obtain ⟨yr0, yr1, yrl⟩ := Br.cells
  have G1 := G'
  have hs1 := Lib.hid hs'
  clear G' hs' Bp' Bq' Br'
  refine (merge_i (p := p) (q := q) Bp.nodes Bp.counts (by omega) Bq.nodes Bq.counts (by omega) (by omega) (Gro.cell G1 HM0.out)).mono ?_
  rw [Ea.out]
  rintro e w2 ⟨Aa0, ca0, Aa1, ca1, rfl, hF, os2, d2, rfl⟩
  go_wp2_with (fail)
  obtain ⟨na, hna⟩ : ∃ na, Z1.heap.size + os2.size = na := ⟨_, rfl⟩
  have Ba' := PB.new (X := gro Z1 os2 d2) hF.read (n := na) (by rw [gro_size]; exact hna)
  have hG' : Gro Z1 ((gro Z1 os2 d2).alloc (.cells #[.slice Aa0 a.Stacks.Nodes.length ca0, .slice Aa1 a.Counts.length ca1] 33)) := (by repeat (first | with_reducible exact Gro.refl _ | with_reducible exact Gro.refl_drew _ _ _ | with_reducible exact Gro.refl_drewN _ _ _ _ | assumption | with_reducible apply Gro.more | with_reducible apply Gro.alloc | with_reducible apply Gro.drew | with_reducible apply Gro.drewN))
  have hs' : ((gro Z1 os2 d2).alloc (.cells #[.slice Aa0 a.Stacks.Nodes.length ca0, .slice Aa1 a.Counts.length ca1] 33)).heap.size = na + 1 := by rw [World.size_alloc, gro_size, hna]
  try simp only [World.size_alloc, gro_size] at hna
  rw [hna]
  have Bp' := Bp.up hG'
  have Bq' := Bq.up hG'
  have Br' := Br.up hG'
  have G' := G1.trans hG'
  clear yp0 yp1 ypl Bp yq0 yq1 yql Bq yr0 yr1 yrl Br G1 hF
  generalize ((gro Z1 os2 d2).alloc (.cells #[.slice Aa0 a.Stacks.Nodes.length ca0, .slice Aa1 a.Counts.length ca1] 33)) = Z2 at Bp' Bq' Br' Ba' G' hs' ⊢
  clear hG' hna
  have Bp := Bp'
  obtain ⟨yp0, yp1, ypl⟩ := Bp.cells
  have Bq := Bq'
  obtain ⟨yq0, yq1, yql⟩ := Bq.cells
  have Br := Br'
  obtain ⟨yr0, yr1, yrl⟩ := Br.cells
  have Ba := Ba'
  obtain ⟨ya0, ya1, yal⟩ := Ba.cells
  have G2 := G'
  have hs2 := Lib.hid hs'
  clear G' hs' Bp' Bq' Br' Ba'
  refine (merge_i (p := q) (q := p) Bq.nodes Bq.counts (by omega) Bp.nodes Bp.counts (by omega) (by omega) (Gro.cell G2 HM0.out)).mono ?_
  rw [Eb.out]
  rintro e w3 ⟨Ab0, cb0, Ab1, cb1, rfl, hF, os3, d3, rfl⟩
  go_wp2_with (fail)
  obtain ⟨nb, hnb⟩ : ∃ nb, Z2.heap.size + os3.size = nb := ⟨_, rfl⟩
  have Bb' := PB.new (X := gro Z2 os3 d3) hF.read (n := nb) (by rw [gro_size]; exact hnb)
  have hG' : Gro Z2 ((gro Z2 os3 d3).alloc (.cells #[.slice Ab0 b.Stacks.Nodes.length cb0, .slice Ab1 b.Counts.length cb1] 33)) := (by repeat (first | with_reducible exact Gro.refl _ | with_reducible exact Gro.refl_drew _ _ _ | with_reducible exact Gro.refl_drewN _ _ _ _ | assumption | with_reducible apply Gro.more | with_reducible apply Gro.alloc | with_reducible apply Gro.drew | with_reducible apply Gro.drewN))
  have hs' : ((gro Z2 os3 d3).alloc (.cells #[.slice Ab0 b.Stacks.Nodes.length cb0, .slice Ab1 b.Counts.length cb1] 33)).heap.size = nb + 1 := by rw [World.size_alloc, gro_size, hnb]
  try simp only [World.size_alloc, gro_size] at hnb
  rw [hnb]
  have Bp' := Bp.up hG'
  have Bq' := Bq.up hG'
  have Br' := Br.up hG'
  have Ba' := Ba.up hG'
  have G' := G2.trans hG'
  clear yp0 yp1 ypl Bp yq0 yq1 yql Bq yr0 yr1 yrl Br ya0 ya1 yal Ba G2 hF
  generalize ((gro Z2 os3 d3).alloc (.cells #[.slice Ab0 b.Stacks.Nodes.length cb0, .slice Ab1 b.Counts.length cb1] 33)) = Z3 at Bp' Bq' Br' Ba' Bb' G' hs' ⊢
  clear hG' hnb
  have Bp := Bp'
  obtain ⟨yp0, yp1, ypl⟩ := Bp.cells
  have Bq := Bq'
  obtain ⟨yq0, yq1, yql⟩ := Bq.cells
  have Br := Br'
  obtain ⟨yr0, yr1, yrl⟩ := Br.cells
  have Ba := Ba'
  obtain ⟨ya0, ya1, yal⟩ := Ba.cells
  have Bb := Bb'
  obtain ⟨yb0, yb1, ybl⟩ := Bb.cells
  have G3 := G'
  have hs3 := Lib.hid hs'
  clear G' hs' Bp' Bq' Br' Ba' Bb'
  refine (merge_i (p := a) (q := r) Ba.nodes Ba.counts (by omega) Br.nodes Br.counts (by omega) (by omega) (Gro.cell G3 HM0.out)).mono ?_
  rw [Ec.out]
  rintro e w4 ⟨Ac0, cc0, Ac1, cc1, rfl, hF, os4, d4, rfl⟩
  go_wp2_with (fail)
  obtain ⟨nc, hnc⟩ : ∃ nc, Z3.heap.size + os4.size = nc := ⟨_, rfl⟩
  have Bc' := PB.new (X := gro Z3 os4 d4) hF.read (n := nc) (by rw [gro_size]; exact hnc)
  have hG' : Gro Z3 ((gro Z3 os4 d4).alloc (.cells #[.slice Ac0 c.Stacks.Nodes.length cc0, .slice Ac1 c.Counts.length cc1] 33)) := (by repeat (first | with_reducible exact Gro.refl _ | with_reducible exact Gro.refl_drew _ _ _ | with_reducible exact Gro.refl_drewN _ _ _ _ | assumption | with_reducible apply Gro.more | with_reducible apply Gro.alloc | with_reducible apply Gro.drew | with_reducible apply Gro.drewN))
  have hs' : ((gro Z3 os4 d4).alloc (.cells #[.slice Ac0 c.Stacks.Nodes.length cc0, .slice Ac1 c.Counts.length cc1] 33)).heap.size = nc + 1 := by rw [World.size_alloc, gro_size, hnc]
  try simp only [World.size_alloc, gro_size] at hnc
  rw [hnc]
  have Bp' := Bp.up hG'
  have Bq' := Bq.up hG'
  have Br' := Br.up hG'
  have Ba' := Ba.up hG'
  have Bb' := Bb.up hG'
  have G' := G3.trans hG'
  clear yp0 yp1 ypl Bp yq0 yq1 yql Bq yr0 yr1 yrl Br ya0 ya1 yal Ba yb0 yb1 ybl Bb G3 hF
  generalize ((gro Z3 os4 d4).alloc (.cells #[.slice Ac0 c.Stacks.Nodes.length cc0, .slice Ac1 c.Counts.length cc1] 33)) = Z4 at Bp' Bq' Br' Ba' Bb' Bc' G' hs' ⊢
  clear hG' hnc
  have Bp := Bp'
  obtain ⟨yp0, yp1, ypl⟩ := Bp.cells
  have Bq := Bq'
  obtain ⟨yq0, yq1, yql⟩ := Bq.cells
  have Br := Br'
  obtain ⟨yr0, yr1, yrl⟩ := Br.cells
  have Ba := Ba'
  obtain ⟨ya0, ya1, yal⟩ := Ba.cells
  have Bb := Bb'
  obtain ⟨yb0, yb1, ybl⟩ := Bb.cells
  have Bc := Bc'
  obtain ⟨yc0, yc1, ycl⟩ := Bc.cells
  have G4 := G'
  have hs4 := Lib.hid hs'
  clear G' hs' Bp' Bq' Br' Ba' Bb' Bc'
  refine (merge_i (p := q) (q := r) Bq.nodes Bq.counts (by omega) Br.nodes Br.counts (by omega) (by omega) (Gro.cell G4 HM0.out)).mono ?_
  rw [Ed.out]
  rintro e w5 ⟨Ad0, cd0, Ad1, cd1, rfl, hF, os5, d5, rfl⟩
  go_wp2_with (fail)
  obtain ⟨nd, hnd⟩ : ∃ nd, Z4.heap.size + os5.size = nd := ⟨_, rfl⟩
  have Bd' := PB.new (X := gro Z4 os5 d5) hF.read (n := nd) (by rw [gro_size]; exact hnd)
  have hG' : Gro Z4 ((gro Z4 os5 d5).alloc (.cells #[.slice Ad0 d.Stacks.Nodes.length cd0, .slice Ad1 d.Counts.length cd1] 33)) := (by repeat (first | with_reducible exact Gro.refl _ | with_reducible exact Gro.refl_drew _ _ _ | with_reducible exact Gro.refl_drewN _ _ _ _ | assumption | with_reducible apply Gro.more | with_reducible apply Gro.alloc | with_reducible apply Gro.drew | with_reducible apply Gro.drewN))
  have hs' : ((gro Z4 os5 d5).alloc (.cells #[.slice Ad0 d.Stacks.Nodes.length cd0, .slice Ad1 d.Counts.length cd1] 33)).heap.size = nd + 1 := by rw [World.size_alloc, gro_size, hnd]
  try simp only [World.size_alloc, gro_size] at hnd
  rw [hnd]
  have Bp' := Bp.up hG'
  have Bq' := Bq.up hG'
  have Br' := Br.up hG'
  have Ba' := Ba.up hG'
  have Bb' := Bb.up hG'
  have Bc' := Bc.up hG'
  have G' := G4.trans hG'
  clear yp0 yp1 ypl Bp yq0 yq1 yql Bq yr0 yr1 yrl Br ya0 ya1 yal Ba yb0 yb1 ybl Bb yc0 yc1 ycl Bc G4 hF
  generalize ((gro Z4 os5 d5).alloc (.cells #[.slice Ad0 d.Stacks.Nodes.length cd0, .slice Ad1 d.Counts.length cd1] 33)) = Z5 at Bp' Bq' Br' Ba' Bb' Bc' Bd' G' hs' ⊢
  clear hG' hnd
  have Bp := Bp'
  obtain ⟨yp0, yp1, ypl⟩ := Bp.cells
  have Bq := Bq'
  obtain ⟨yq0, yq1, yql⟩ := Bq.cells
  have Br := Br'
  obtain ⟨yr0, yr1, yrl⟩ := Br.cells
  have Ba := Ba'
  obtain ⟨ya0, ya1, yal⟩ := Ba.cells
  have Bb := Bb'
  obtain ⟨yb0, yb1, ybl⟩ := Bb.cells
  have Bc := Bc'
  obtain ⟨yc0, yc1, ycl⟩ := Bc.cells
  have Bd := Bd'
  obtain ⟨yd0, yd1, ydl⟩ := Bd.cells
  have G5 := G'
  have hs5 := Lib.hid hs'
  clear G' hs' Bp' Bq' Br' Ba' Bb' Bc' Bd'
  refine (merge_i (p := p) (q := d) Bp.nodes Bp.counts (by omega) Bd.nodes Bd.counts (by omega) (by omega) (Gro.cell G5 HM0.out)).mono ?_
  rw [Ee.out]
  rintro e w6 ⟨Ae0, ce0, Ae1, ce1, rfl, hF, os6, d6, rfl⟩
  go_wp2_with (fail)
  obtain ⟨ne, hne⟩ : ∃ ne, Z5.heap.size + os6.size = ne := ⟨_, rfl⟩
  have Be' := PB.new (X := gro Z5 os6 d6) hF.read (n := ne) (by rw [gro_size]; exact hne)
  have hG' : Gro Z5 ((gro Z5 os6 d6).alloc (.cells #[.slice Ae0 e.Stacks.Nodes.length ce0, .slice Ae1 e.Counts.length ce1] 33)) := (by repeat (first | with_reducible exact Gro.refl _ | with_reducible exact Gro.refl_drew _ _ _ | with_reducible exact Gro.refl_drewN _ _ _ _ | assumption | with_reducible apply Gro.more | with_reducible apply Gro.alloc | with_reducible apply Gro.drew | with_reducible apply Gro.drewN))
  have hs' : ((gro Z5 os6 d6).alloc (.cells #[.slice Ae0 e.Stacks.Nodes.length ce0, .slice Ae1 e.Counts.length ce1] 33)).heap.size = ne + 1 := by rw [World.size_alloc, gro_size, hne]
  try simp only [World.size_alloc, gro_size] at hne
  rw [hne]
  have Bp' := Bp.up hG'
  have Bq' := Bq.up hG'
  have Br' := Br.up hG'
  have Ba' := Ba.up hG'
  have Bb' := Bb.up hG'
  have Bc' := Bc.up hG'
  have Bd' := Bd.up hG'
  have G' := G5.trans hG'
  clear yp0 yp1 ypl Bp yq0 yq1 yql Bq yr0 yr1 yrl Br ya0 ya1 yal Ba yb0 yb1 ybl Bb yc0 yc1 ycl Bc yd0 yd1 ydl Bd G5 hF
  generalize ((gro Z5 os6 d6).alloc (.cells #[.slice Ae0 e.Stacks.Nodes.length ce0, .slice Ae1 e.Counts.length ce1] 33)) = Z6 at Bp' Bq' Br' Ba' Bb' Bc' Bd' Be' G' hs' ⊢
  clear hG' hne
  have Bp := Bp'
  obtain ⟨yp0, yp1, ypl⟩ := Bp.cells
  have Bq := Bq'
  obtain ⟨yq0, yq1, yql⟩ := Bq.cells
  have Br := Br'
  obtain ⟨yr0, yr1, yrl⟩ := Br.cells
  have Ba := Ba'
  obtain ⟨ya0, ya1, yal⟩ := Ba.cells
  have Bb := Bb'
  obtain ⟨yb0, yb1, ybl⟩ := Bb.cells
  have Bc := Bc'
  obtain ⟨yc0, yc1, ycl⟩ := Bc.cells
  have Bd := Bd'
  obtain ⟨yd0, yd1, ydl⟩ := Bd.cells
  have Be := Be'
  obtain ⟨ye0, ye1, yel⟩ := Be.cells
  have G6 := G'
  have hs6 := Lib.hid hs'
  clear G' hs' Bp' Bq' Br' Ba' Bb' Bc' Bd' Be'
  have e3 := heap_alloc_new Z6 (.cells #[.slice Ap0 p.Stacks.Nodes.length cp0, .slice Ap1 p.Counts.length cp1, .slice Aq0 q.Stacks.Nodes.length cq0, .slice Aq1 q.Counts.length cq1, .slice Ar0 r.Stacks.Nodes.length cr0, .slice Ar1 r.Counts.length cr1] 33)
  rw [hs6.out] at e3
  refine (mergeAll_i (l := [p, q, r]) (three_R e3 (Ty.up _ Bp.rd (by repeat (first | with_reducible exact Gro.refl _ | with_reducible exact Gro.refl_drew _ _ _ | with_reducible exact Gro.refl_drewN _ _ _ _ | assumption | with_reducible apply Gro.more | with_reducible apply Gro.alloc | with_reducible apply Gro.drew | with_reducible apply Gro.drewN))) (Ty.up _ Bq.rd (by repeat (first | with_reducible exact Gro.refl _ | with_reducible exact Gro.refl_drew _ _ _ | with_reducible exact Gro.refl_drewN _ _ _ _ | assumption | with_reducible apply Gro.more | with_reducible apply Gro.alloc | with_reducible apply Gro.drew | with_reducible apply Gro.drewN))) (Ty.up _ Br.rd (by repeat (first | with_reducible exact Gro.refl _ | with_reducible exact Gro.refl_drew _ _ _ | with_reducible exact Gro.refl_drewN _ _ _ _ | assumption | with_reducible apply Gro.more | with_reducible apply Gro.alloc | with_reducible apply Gro.drew | with_reducible apply Gro.drewN)))) f8 (Gro.cell (G6.alloc _) HM0.out)).mono ?_
  rw [Ef.out]
  rintro e w7 ⟨Af0, cf0, Af1, cf1, rfl, hF, os7, d7, rfl⟩
  go_wp2_with (fail)
  obtain ⟨nf, hnf⟩ : ∃ nf, (Z6.alloc (.cells #[.slice Ap0 p.Stacks.Nodes.length cp0, .slice Ap1 p.Counts.length cp1, .slice Aq0 q.Stacks.Nodes.length cq0, .slice Aq1 q.Counts.length cq1, .slice Ar0 r.Stacks.Nodes.length cr0, .slice Ar1 r.Counts.length cr1] 33)).heap.size + os7.size = nf := ⟨_, rfl⟩
  have Bf' := PB.new (X := gro (Z6.alloc (.cells #[.slice Ap0 p.Stacks.Nodes.length cp0, .slice Ap1 p.Counts.length cp1, .slice Aq0 q.Stacks.Nodes.length cq0, .slice Aq1 q.Counts.length cq1, .slice Ar0 r.Stacks.Nodes.length cr0, .slice Ar1 r.Counts.length cr1] 33)) os7 d7) hF.read (n := nf) (by rw [gro_size]; exact hnf)
  have hG' : Gro Z6 ((gro (Z6.alloc (.cells #[.slice Ap0 p.Stacks.Nodes.length cp0, .slice Ap1 p.Counts.length cp1, .slice Aq0 q.Stacks.Nodes.length cq0, .slice Aq1 q.Counts.length cq1, .slice Ar0 r.Stacks.Nodes.length cr0, .slice Ar1 r.Counts.length cr1] 33)) os7 d7).alloc (.cells #[.slice Af0 f.Stacks.Nodes.length cf0, .slice Af1 f.Counts.length cf1] 33)) := (by repeat (first | with_reducible exact Gro.refl _ | with_reducible exact Gro.refl_drew _ _ _ | with_reducible exact Gro.refl_drewN _ _ _ _ | assumption | with_reducible apply Gro.more | with_reducible apply Gro.alloc | with_reducible apply Gro.drew | with_reducible apply Gro.drewN))
  have hs' : ((gro (Z6.alloc (.cells #[.slice Ap0 p.Stacks.Nodes.length cp0, .slice Ap1 p.Counts.length cp1, .slice Aq0 q.Stacks.Nodes.length cq0, .slice Aq1 q.Counts.length cq1, .slice Ar0 r.Stacks.Nodes.length cr0, .slice Ar1 r.Counts.length cr1] 33)) os7 d7).alloc (.cells #[.slice Af0 f.Stacks.Nodes.length cf0, .slice Af1 f.Counts.length cf1] 33)).heap.size = nf + 1 := by rw [World.size_alloc, gro_size, hnf]
  try simp only [World.size_alloc, gro_size] at hnf
  rw [hnf]
  have Bp' := Bp.up hG'
  have Bq' := Bq.up hG'
  have Br' := Br.up hG'
  have Ba' := Ba.up hG'
  have Bb' := Bb.up hG'
  have Bc' := Bc.up hG'
  have Bd' := Bd.up hG'
  have Be' := Be.up hG'
  have G' := G6.trans hG'
  clear yp0 yp1 ypl Bp yq0 yq1 yql Bq yr0 yr1 yrl Br ya0 ya1 yal Ba yb0 yb1 ybl Bb yc0 yc1 ycl Bc yd0 yd1 ydl Bd ye0 ye1 yel Be G6 hF
  generalize ((gro (Z6.alloc (.cells #[.slice Ap0 p.Stacks.Nodes.length cp0, .slice Ap1 p.Counts.length cp1, .slice Aq0 q.Stacks.Nodes.length cq0, .slice Aq1 q.Counts.length cq1, .slice Ar0 r.Stacks.Nodes.length cr0, .slice Ar1 r.Counts.length cr1] 33)) os7 d7).alloc (.cells #[.slice Af0 f.Stacks.Nodes.length cf0, .slice Af1 f.Counts.length cf1] 33)) = Z7 at Bp' Bq' Br' Ba' Bb' Bc' Bd' Be' Bf' G' hs' ⊢
  clear hG' hnf
  have Bp := Bp'
  obtain ⟨yp0, yp1, ypl⟩ := Bp.cells
  have Bq := Bq'
  obtain ⟨yq0, yq1, yql⟩ := Bq.cells
  have Br := Br'
  obtain ⟨yr0, yr1, yrl⟩ := Br.cells
  have Ba := Ba'
  obtain ⟨ya0, ya1, yal⟩ := Ba.cells
  have Bb := Bb'
  obtain ⟨yb0, yb1, ybl⟩ := Bb.cells
  have Bc := Bc'
  obtain ⟨yc0, yc1, ycl⟩ := Bc.cells
  have Bd := Bd'
  obtain ⟨yd0, yd1, ydl⟩ := Bd.cells
  have Be := Be'
  obtain ⟨ye0, ye1, yel⟩ := Be.cells
  have Bf := Bf'
  obtain ⟨yf0, yf1, yfl⟩ := Bf.cells
  have G7 := G'
  have hs7 := Lib.hid hs'
  clear G' hs' Bp' Bq' Br' Ba' Bb' Bc' Bd' Be' Bf'
  refine (merge_i (p := p) (q := p) Bp.nodes Bp.counts (by omega) Bp.nodes Bp.counts (by omega) (by omega) (Gro.cell G7 HM0.out)).mono ?_
  rw [Eg.out]
  rintro e w8 ⟨Ag0, cg0, Ag1, cg1, rfl, hF, os8, d8, rfl⟩
  go_wp2_with (fail)
  obtain ⟨ng, hng⟩ : ∃ ng, Z7.heap.size + os8.size = ng := ⟨_, rfl⟩
  have Bg' := PB.new (X := gro Z7 os8 d8) hF.read (n := ng) (by rw [gro_size]; exact hng)
  have hG' : Gro Z7 ((gro Z7 os8 d8).alloc (.cells #[.slice Ag0 g.Stacks.Nodes.length cg0, .slice Ag1 g.Counts.length cg1] 33)) := (by repeat (first | with_reducible exact Gro.refl _ | with_reducible exact Gro.refl_drew _ _ _ | with_reducible exact Gro.refl_drewN _ _ _ _ | assumption | with_reducible apply Gro.more | with_reducible apply Gro.alloc | with_reducible apply Gro.drew | with_reducible apply Gro.drewN))
  have hs' : ((gro Z7 os8 d8).alloc (.cells #[.slice Ag0 g.Stacks.Nodes.length cg0, .slice Ag1 g.Counts.length cg1] 33)).heap.size = ng + 1 := by rw [World.size_alloc, gro_size, hng]
  try simp only [World.size_alloc, gro_size] at hng
  rw [hng]
  have Bp' := Bp.up hG'
  have Bq' := Bq.up hG'
  have Br' := Br.up hG'
  have Ba' := Ba.up hG'
  have Bb' := Bb.up hG'
  have Bc' := Bc.up hG'
  have Bd' := Bd.up hG'
  have Be' := Be.up hG'
  have Bf' := Bf.up hG'
  have G' := G7.trans hG'
  clear yp0 yp1 ypl Bp yq0 yq1 yql Bq yr0 yr1 yrl Br ya0 ya1 yal Ba yb0 yb1 ybl Bb yc0 yc1 ycl Bc yd0 yd1 ydl Bd ye0 ye1 yel Be yf0 yf1 yfl Bf G7 hF
  generalize ((gro Z7 os8 d8).alloc (.cells #[.slice Ag0 g.Stacks.Nodes.length cg0, .slice Ag1 g.Counts.length cg1] 33)) = Z8 at Bp' Bq' Br' Ba' Bb' Bc' Bd' Be' Bf' Bg' G' hs' ⊢
  clear hG' hng
  have Bp := Bp'
  obtain ⟨yp0, yp1, ypl⟩ := Bp.cells
  have Bq := Bq'
  obtain ⟨yq0, yq1, yql⟩ := Bq.cells
  have Br := Br'
  obtain ⟨yr0, yr1, yrl⟩ := Br.cells
  have Ba := Ba'
  obtain ⟨ya0, ya1, yal⟩ := Ba.cells
  have Bb := Bb'
  obtain ⟨yb0, yb1, ybl⟩ := Bb.cells
  have Bc := Bc'
  obtain ⟨yc0, yc1, ycl⟩ := Bc.cells
  have Bd := Bd'
  obtain ⟨yd0, yd1, ydl⟩ := Bd.cells
  have Be := Be'
  obtain ⟨ye0, ye1, yel⟩ := Be.cells
  have Bf := Bf'
  obtain ⟨yf0, yf1, yfl⟩ := Bf.cells
  have Bg := Bg'
  obtain ⟨yg0, yg1, ygl⟩ := Bg.cells
  have G8 := G'
  have hs8 := Lib.hid hs'
  clear G' hs' Bp' Bq' Br' Ba' Bb' Bc' Bd' Be' Bf' Bg'
  refine (scale_i (p := p) (n := 2) Bp.nodes Bp.counts (by omega) (by omega) (Gro.cell G8 HM0.out)).mono ?_
  rw [Eh.out]
  rintro e w9 ⟨Ah0, ch0, Ah1, ch1, rfl, hF, os9, d9, rfl⟩
  go_wp2_with (fail)
  obtain ⟨nh, hnh⟩ : ∃ nh, Z8.heap.size + os9.size = nh := ⟨_, rfl⟩
  have Bh' := PB.new (X := gro Z8 os9 d9) hF.read (n := nh) (by rw [gro_size]; exact hnh)
  have hG' : Gro Z8 ((gro Z8 os9 d9).alloc (.cells #[.slice Ah0 h.Stacks.Nodes.length ch0, .slice Ah1 h.Counts.length ch1] 33)) := (by repeat (first | with_reducible exact Gro.refl _ | with_reducible exact Gro.refl_drew _ _ _ | with_reducible exact Gro.refl_drewN _ _ _ _ | assumption | with_reducible apply Gro.more | with_reducible apply Gro.alloc | with_reducible apply Gro.drew | with_reducible apply Gro.drewN))
  have hs' : ((gro Z8 os9 d9).alloc (.cells #[.slice Ah0 h.Stacks.Nodes.length ch0, .slice Ah1 h.Counts.length ch1] 33)).heap.size = nh + 1 := by rw [World.size_alloc, gro_size, hnh]
  try simp only [World.size_alloc, gro_size] at hnh
  rw [hnh]
  have Bp' := Bp.up hG'
  have Bq' := Bq.up hG'
  have Br' := Br.up hG'
  have Ba' := Ba.up hG'
  have Bb' := Bb.up hG'
  have Bc' := Bc.up hG'
  have Bd' := Bd.up hG'
  have Be' := Be.up hG'
  have Bf' := Bf.up hG'
  have Bg' := Bg.up hG'
  have G' := G8.trans hG'
  clear yp0 yp1 ypl Bp yq0 yq1 yql Bq yr0 yr1 yrl Br ya0 ya1 yal Ba yb0 yb1 ybl Bb yc0 yc1 ycl Bc yd0 yd1 ydl Bd ye0 ye1 yel Be yf0 yf1 yfl Bf yg0 yg1 ygl Bg G8 hF
  generalize ((gro Z8 os9 d9).alloc (.cells #[.slice Ah0 h.Stacks.Nodes.length ch0, .slice Ah1 h.Counts.length ch1] 33)) = Z9 at Bp' Bq' Br' Ba' Bb' Bc' Bd' Be' Bf' Bg' Bh' G' hs' ⊢
  clear hG' hnh
  have Bp := Bp'
  obtain ⟨yp0, yp1, ypl⟩ := Bp.cells
  have Bq := Bq'
  obtain ⟨yq0, yq1, yql⟩ := Bq.cells
  have Br := Br'
  obtain ⟨yr0, yr1, yrl⟩ := Br.cells
  have Ba := Ba'
  obtain ⟨ya0, ya1, yal⟩ := Ba.cells
  have Bb := Bb'
  obtain ⟨yb0, yb1, ybl⟩ := Bb.cells
  have Bc := Bc'
  obtain ⟨yc0, yc1, ycl⟩ := Bc.cells
  have Bd := Bd'
  obtain ⟨yd0, yd1, ydl⟩ := Bd.cells
  have Be := Be'
  obtain ⟨ye0, ye1, yel⟩ := Be.cells
  have Bf := Bf'
  obtain ⟨yf0, yf1, yfl⟩ := Bf.cells
  have Bg := Bg'
  obtain ⟨yg0, yg1, ygl⟩ := Bg.cells
  have Bh := Bh'
  obtain ⟨yh0, yh1, yhl⟩ := Bh.cells
  have G9 := G'
  have hs9 := Lib.hid hs'
  clear G' hs' Bp' Bq' Br' Ba' Bb' Bc' Bd' Be' Bf' Bg' Bh'
  first | (go_region_held3 (fun w' => w'.cell? ⟨np, 0, none⟩ = some (.slice Ap0 p.Stacks.Nodes.length cp0) ∧ w'.cell? ⟨np, 1, none⟩ = some (.slice Ap1 p.Counts.length cp1) ∧ w'.cell? ⟨(np + 1), 0, none⟩ = some (.slice Aq0 q.Stacks.Nodes.length cq0) ∧ w'.cell? ⟨(np + 1), 1, none⟩ = some (.slice Aq1 q.Counts.length cq1) ∧ w'.cell? ⟨na, 0, none⟩ = some (.slice Aa0 a.Stacks.Nodes.length ca0) ∧ w'.cell? ⟨na, 1, none⟩ = some (.slice Aa1 a.Counts.length ca1) ∧ w'.cell? ⟨nb, 0, none⟩ = some (.slice Ab0 b.Stacks.Nodes.length cb0) ∧ w'.cell? ⟨nb, 1, none⟩ = some (.slice Ab1 b.Counts.length cb1) ∧ w'.cell? ⟨nc, 0, none⟩ = some (.slice Ac0 c.Stacks.Nodes.length cc0) ∧ w'.cell? ⟨nc, 1, none⟩ = some (.slice Ac1 c.Counts.length cc1) ∧ w'.cell? ⟨ne, 0, none⟩ = some (.slice Ae0 e.Stacks.Nodes.length ce0) ∧ w'.cell? ⟨ne, 1, none⟩ = some (.slice Ae1 e.Counts.length ce1) ∧ w'.cell? ⟨nf, 0, none⟩ = some (.slice Af0 f.Stacks.Nodes.length cf0) ∧ w'.cell? ⟨nf, 1, none⟩ = some (.slice Af1 f.Counts.length cf1) ∧ w'.cell? ⟨ng, 0, none⟩ = some (.slice Ag0 g.Stacks.Nodes.length cg0) ∧ w'.cell? ⟨ng, 1, none⟩ = some (.slice Ag1 g.Counts.length cg1) ∧ w'.cell? ⟨nh, 0, none⟩ = some (.slice Ah0 h.Stacks.Nodes.length ch0) ∧ w'.cell? ⟨nh, 1, none⟩ = some (.slice Ah1 h.Counts.length ch1)) ((repeat' apply And.intro) <;> (first | ((repeat (first | assumption | with_reducible refine gro_keeps ?_ _ _ | with_reducible refine alloc_keeps ?_ _ | with_reducible refine drew_keeps ?_)); done) | (simp [go_sem]; done))) (first
    | (go_at_call 19; (with_reducible refine (samep_i (p := a) (q := b) (Ty.up _ Ba.nodes (by (repeat (first | with_reducible exact Gro.refl _ | with_reducible exact Gro.refl_drew _ _ _ | with_reducible exact Gro.refl_drewN _ _ _ _ | assumption | with_reducible apply Gro.more | with_reducible apply Gro.alloc | with_reducible apply Gro.drew | with_reducible apply Gro.drewN)); done)) (Ty.up _ Ba.counts (by (repeat (first | with_reducible exact Gro.refl _ | with_reducible exact Gro.refl_drew _ _ _ | with_reducible exact Gro.refl_drewN _ _ _ _ | assumption | with_reducible apply Gro.more | with_reducible apply Gro.alloc | with_reducible apply Gro.drew | with_reducible apply Gro.drewN)); done)) (by omega) (Ty.up _ Bb.nodes (by (repeat (first | with_reducible exact Gro.refl _ | with_reducible exact Gro.refl_drew _ _ _ | with_reducible exact Gro.refl_drewN _ _ _ _ | assumption | with_reducible apply Gro.more | with_reducible apply Gro.alloc | with_reducible apply Gro.drew | with_reducible apply Gro.drewN)); done)) (Ty.up _ Bb.counts (by (repeat (first | with_reducible exact Gro.refl _ | with_reducible exact Gro.refl_drew _ _ _ | with_reducible exact Gro.refl_drewN _ _ _ _ | assumption | with_reducible apply Gro.more | with_reducible apply Gro.alloc | with_reducible apply Gro.drew | with_reducible apply Gro.drewN)); done)) (by omega)).mono ?_); rw [S1.out]; rintro e u1 ⟨rfl, oss1, dd1, rfl⟩)
    | (go_at_call 19; (with_reducible refine (samep_i (p := c) (q := e) (Ty.up _ Bc.nodes (by (repeat (first | with_reducible exact Gro.refl _ | with_reducible exact Gro.refl_drew _ _ _ | with_reducible exact Gro.refl_drewN _ _ _ _ | assumption | with_reducible apply Gro.more | with_reducible apply Gro.alloc | with_reducible apply Gro.drew | with_reducible apply Gro.drewN)); done)) (Ty.up _ Bc.counts (by (repeat (first | with_reducible exact Gro.refl _ | with_reducible exact Gro.refl_drew _ _ _ | with_reducible exact Gro.refl_drewN _ _ _ _ | assumption | with_reducible apply Gro.more | with_reducible apply Gro.alloc | with_reducible apply Gro.drew | with_reducible apply Gro.drewN)); done)) (by omega) (Ty.up _ Be.nodes (by (repeat (first | with_reducible exact Gro.refl _ | with_reducible exact Gro.refl_drew _ _ _ | with_reducible exact Gro.refl_drewN _ _ _ _ | assumption | with_reducible apply Gro.more | with_reducible apply Gro.alloc | with_reducible apply Gro.drew | with_reducible apply Gro.drewN)); done)) (Ty.up _ Be.counts (by (repeat (first | with_reducible exact Gro.refl _ | with_reducible exact Gro.refl_drew _ _ _ | with_reducible exact Gro.refl_drewN _ _ _ _ | assumption | with_reducible apply Gro.more | with_reducible apply Gro.alloc | with_reducible apply Gro.drew | with_reducible apply Gro.drewN)); done)) (by omega)).mono ?_); rw [S2.out]; rintro e u2 ⟨rfl, oss2, dd2, rfl⟩)
    | (go_at_call 19; (with_reducible refine (samep_i (p := c) (q := f) (Ty.up _ Bc.nodes (by (repeat (first | with_reducible exact Gro.refl _ | with_reducible exact Gro.refl_drew _ _ _ | with_reducible exact Gro.refl_drewN _ _ _ _ | assumption | with_reducible apply Gro.more | with_reducible apply Gro.alloc | with_reducible apply Gro.drew | with_reducible apply Gro.drewN)); done)) (Ty.up _ Bc.counts (by (repeat (first | with_reducible exact Gro.refl _ | with_reducible exact Gro.refl_drew _ _ _ | with_reducible exact Gro.refl_drewN _ _ _ _ | assumption | with_reducible apply Gro.more | with_reducible apply Gro.alloc | with_reducible apply Gro.drew | with_reducible apply Gro.drewN)); done)) (by omega) (Ty.up _ Bf.nodes (by (repeat (first | with_reducible exact Gro.refl _ | with_reducible exact Gro.refl_drew _ _ _ | with_reducible exact Gro.refl_drewN _ _ _ _ | assumption | with_reducible apply Gro.more | with_reducible apply Gro.alloc | with_reducible apply Gro.drew | with_reducible apply Gro.drewN)); done)) (Ty.up _ Bf.counts (by (repeat (first | with_reducible exact Gro.refl _ | with_reducible exact Gro.refl_drew _ _ _ | with_reducible exact Gro.refl_drewN _ _ _ _ | assumption | with_reducible apply Gro.more | with_reducible apply Gro.alloc | with_reducible apply Gro.drew | with_reducible apply Gro.drewN)); done)) (by omega)).mono ?_); rw [S3.out]; rintro e u3 ⟨rfl, oss3, dd3, rfl⟩)
    | (go_at_call 19; (with_reducible refine (samep_i (p := g) (q := h) (Ty.up _ Bg.nodes (by (repeat (first | with_reducible exact Gro.refl _ | with_reducible exact Gro.refl_drew _ _ _ | with_reducible exact Gro.refl_drewN _ _ _ _ | assumption | with_reducible apply Gro.more | with_reducible apply Gro.alloc | with_reducible apply Gro.drew | with_reducible apply Gro.drewN)); done)) (Ty.up _ Bg.counts (by (repeat (first | with_reducible exact Gro.refl _ | with_reducible exact Gro.refl_drew _ _ _ | with_reducible exact Gro.refl_drewN _ _ _ _ | assumption | with_reducible apply Gro.more | with_reducible apply Gro.alloc | with_reducible apply Gro.drew | with_reducible apply Gro.drewN)); done)) (by omega) (Ty.up _ Bh.nodes (by (repeat (first | with_reducible exact Gro.refl _ | with_reducible exact Gro.refl_drew _ _ _ | with_reducible exact Gro.refl_drewN _ _ _ _ | assumption | with_reducible apply Gro.more | with_reducible apply Gro.alloc | with_reducible apply Gro.drew | with_reducible apply Gro.drewN)); done)) (Ty.up _ Bh.counts (by (repeat (first | with_reducible exact Gro.refl _ | with_reducible exact Gro.refl_drew _ _ _ | with_reducible exact Gro.refl_drewN _ _ _ _ | assumption | with_reducible apply Gro.more | with_reducible apply Gro.alloc | with_reducible apply Gro.drew | with_reducible apply Gro.drewN)); done)) (by omega)).mono ?_); rw [S4.out]; rintro e u4 ⟨rfl, oss4, dd4, rfl⟩)
    | (go_at_call 20; (with_reducible refine (totalOf_i (p := a) (Ty.up _ Ba.nodes (by (repeat (first | with_reducible exact Gro.refl _ | with_reducible exact Gro.refl_drew _ _ _ | with_reducible exact Gro.refl_drewN _ _ _ _ | assumption | with_reducible apply Gro.more | with_reducible apply Gro.alloc | with_reducible apply Gro.drew | with_reducible apply Gro.drewN)); done)) (Ty.up _ Ba.counts (by (repeat (first | with_reducible exact Gro.refl _ | with_reducible exact Gro.refl_drew _ _ _ | with_reducible exact Gro.refl_drewN _ _ _ _ | assumption | with_reducible apply Gro.more | with_reducible apply Gro.alloc | with_reducible apply Gro.drew | with_reducible apply Gro.drewN)); done))).mono ?_); rw [HTa.out]; rintro e ua ⟨rfl, ota, dta, rfl⟩)
    | (go_at_call 20; (with_reducible refine (totalOf_i (p := p) (Ty.up _ Bp.nodes (by (repeat (first | with_reducible exact Gro.refl _ | with_reducible exact Gro.refl_drew _ _ _ | with_reducible exact Gro.refl_drewN _ _ _ _ | assumption | with_reducible apply Gro.more | with_reducible apply Gro.alloc | with_reducible apply Gro.drew | with_reducible apply Gro.drewN)); done)) (Ty.up _ Bp.counts (by (repeat (first | with_reducible exact Gro.refl _ | with_reducible exact Gro.refl_drew _ _ _ | with_reducible exact Gro.refl_drewN _ _ _ _ | assumption | with_reducible apply Gro.more | with_reducible apply Gro.alloc | with_reducible apply Gro.drew | with_reducible apply Gro.drewN)); done))).mono ?_); rw [HTp.out]; rintro e up ⟨rfl, otp, dtp, rfl⟩)
    | (go_at_call 20; (with_reducible refine (totalOf_i (p := q) (Ty.up _ Bq.nodes (by (repeat (first | with_reducible exact Gro.refl _ | with_reducible exact Gro.refl_drew _ _ _ | with_reducible exact Gro.refl_drewN _ _ _ _ | assumption | with_reducible apply Gro.more | with_reducible apply Gro.alloc | with_reducible apply Gro.drew | with_reducible apply Gro.drewN)); done)) (Ty.up _ Bq.counts (by (repeat (first | with_reducible exact Gro.refl _ | with_reducible exact Gro.refl_drew _ _ _ | with_reducible exact Gro.refl_drewN _ _ _ _ | assumption | with_reducible apply Gro.more | with_reducible apply Gro.alloc | with_reducible apply Gro.drew | with_reducible apply Gro.drewN)); done))).mono ?_); rw [HTq.out]; rintro e uq ⟨rfl, otq, dtq, rfl⟩)
    | fail)) | fail
  go_wp2_with (fail)
  go_ret
  exact ⟨rfl, (by repeat (first | with_reducible exact Gro.refl _ | with_reducible exact Gro.refl_drew _ _ _ | with_reducible exact Gro.refl_drewN _ _ _ _ | assumption | with_reducible apply Gro.more | with_reducible apply Gro.alloc | with_reducible apply Gro.drew | with_reducible apply Gro.drewN))⟩

set_option maxRecDepth 100000 in
theorem lifted (os : Os) (started : os.Started) (H : Type) (enc : TypeId × Value → H) :
    ReturnsInHanded {} Tryz.checked os 6 .any (fun w args => (Rows.fnMergedSpec.pre enc Tryz.prog Tryz.f6 Rows.fnMergedRow.domain false w args ∧ laidMetH Tryz.prog Rows.fnMergedRow.laid w) ∧ sizedMet enc Tryz.prog Tryz.f6 (OpenSpec.ofChange Rows.fnMergedSpec) false w args) (Rows.fnMergedSpec.post enc Tryz.prog Tryz.f6 false true false false) := by
  refine returns_and_shaped (C := Tryz.checked) (X := fun w _ => laidMetH Tryz.prog Rows.fnMergedRow.laid w) (fun _ _ _ hh h => h.of_heap hh) own started (by kernel_rfl) Tryz.func6
    (ChangeSpec.witness_shaped (enc := enc) (C := Tryz.checked) (os := os) (X := fun w _ => laidMetH Tryz.prog Rows.fnMergedRow.laid w) false (World.laidAll Tryz.prog os Rows.fnMergedRow.laid) #[.slice none 0 0] 8 (World.laidAll_os _ _ _) (World.shaped_of_ZipB (by kernel_rfl) (by kernel_rfl)) (by kernel_rfl) (by kernel_rfl) (by kernel_rfl) (by rw [MakeChecks.laidMetH_plain _ _ _ (by kernel_rfl)]; exact laidMet_laidAll _ (by kernel_rfl) (by kernel_rfl))) ?_
  intro W base args ds gs before hval0 hW _ _ hL hSH _
  obtain ⟨mlen, hmlen⟩ := max_len hSH
  have hval : ∀ (j : Nat) t v, Tryz.f6.params[j]? = some t → args[j]? = some v → Value.okWide Tryz.prog W .any base t v := hval0
  have hW' := hW
  obtain ⟨p, q, hA0, hV, rfl, hfz, hnd⟩ := hW
  have hA : DataW.TrodAll enc Tryz.prog W 0 (fun _ => true) true Tryz.f6.params.toList args.toList ds p := hA0
  rw [Tryz.params6] at hA hval
  obtain ⟨v0, vs0, d0, ds0, p0, q0, hargs, rfl, rfl, h0, r0⟩ := trodAll_cons hA
  obtain ⟨rfl, rfl, rfl⟩ := trodAll_nil r0
  obtain rfl : args = #[v0] := by cases args; simp_all
  obtain ⟨rfl, rfl⟩ := trodVars_none hV
  have k0 := h0
  have lt0 : ∀ x ∈ p0, x.block < W.heap.size := by obtain ⟨m, hm⟩ := k0; exact DataW.trod_lt m _ _ _ hm
  obtain ⟨a0, w0⟩ := arg_open (opens_sl (e' := 5) Tryz.underlying40 (by kernel_rfl) (by decide) (opens_byte Tryz.underlying5)) h0
  rw [arg_slice Tryz.underlying40 (hval 0 40 v0 rfl rfl)] at w0
  clear hA0 hval0
  refine (walk W v0 a0 w0 hmlen).mono fun e W' ⟨he, hgro⟩ => ?_
  subst he
  have bel := hgro.below
  exact ⟨_, rfl, _, _, _, [], _, [], hW', trodAll_mk1 (shut_bool Tryz.underlying4 _), (trodAll_cons_mk (Below.trod laidOut (by kernel_rfl) (of_decide_eq_true (by kernel_rfl)) k0 bel lt0) trodAll_mk0), rfl, bel.frame _, fun h => by cases h⟩
theorem over : Rows.fnMergedRow.holds Tryz.pinned (OpenSpec.ofChange Rows.fnMergedSpec) :=
  OpenClaim.holds_of_wide 6 Tryz.f6 rfl rfl rfl rfl rfl rfl rfl ⟨rfl, rfl, rfl, rfl, rfl⟩ rfl rfl rfl rfl rfl (by kernel_rfl) Tryz.func6 (by kernel_rfl)
    (of_decide_eq_true (by kernel_rfl)) (by unfold Func.isWrapper; first | (rw [if_pos (by decide +kernel)]; kernel_rfl) | (rw [if_neg (by decide +kernel)]; exact ⟨rfl, rfl⟩))
    (fun os started H enc _ => lifted os started H enc)
/-- THE STATEMENT: the tied card -/
theorem proved : Rows.FnMergedCardSaid :=
  Claim7.holds_tied_plain_at .later [] [.data, .data, .data, .data, .pinned] true (true, "223fded4ff9f1d09fa78e75d94c7dee0f8fbcb9fe27840c39f670ffa5240e8df") false
    over (fun _ h => by cases h) (by kernel_rfl) (fun _ h => by cases h) fnMerged_row_tie rfl ⟨rfl, rfl⟩ (by kernel_rfl) rfl
    (fun f fn hf hfn => by
      obtain rfl : f = 6 := Option.some.inj ((show Tryz.prog.funcNamed "loop.example/g03314/laws.FnMerged" = some 6 by kernel_rfl).symm.trans hf) |>.symm
      obtain rfl : fn = Tryz.f6 := (Option.some.inj (Tryz.func6.symm.trans hfn)).symm
      exact ⟨by kernel_rfl, fun j t ht => by
        rw [Tryz.params6] at ht
        have hm : t ∈ [40] := by simpa using Array.mem_of_getElem? ht
        have hall : ([40].all fun u => !Tryz.prog.wantsStandIn u) = true := by kernel_rfl
        exact (show Tryz.prog.wantsStandIn t = false by simpa using List.all_eq_true.1 hall t hm)⟩)
    (by kernel_rfl)
#print axioms proved
end Go.Proofs.YtdlkoffandhclaaGreatDoor.fnMerged
