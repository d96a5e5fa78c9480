/-
  PART 1 of the texts of this claim, one behind the other: contracts and laws that the last part uses.
-/
import Derived.WalkKit
import Derived.ProofKit
import Derived.OpenShut
import Derived.WalkSpells
import Derived.Below
import Derived.Carry
import Derived.ChangeOld
import Derived.Lib.Hide
import Derived.Maps.AppendAt
import Derived.Deep.AppendLies
import Derived.Deep.Draws
import Derived.Deep.Slices
import Derived.Deep.Fields
import Derived.Laws.OwnMore
import Derived.Laws.MakeOwn
import Derived.Laws.NewBlocks
import Derived.OwnWalk
import Derived.Test.YtbhobjepjaeffaaProg
import Derived.BigQuiet
import Derived.BigRegion
import Derived.Deep.QuietTactic
import Derived.RegionTactic
import Derived.Deep.RegionHeld3
import Derived.Deep.DeepMust
import Derived.Laws.Bits128
import Derived.KernelRfl
set_option linter.unusedVariables false
set_option linter.unusedSimpArgs false
namespace Go.Proofs.Ytbhobjepjaeffaa
open Go.RowKit
/-! ### the world with new blocks and draws -/
def gro (w : World) (os : Array Obj) (d : Nat) : World := { w with heap := w.heap ++ os, drawn := d }
section
variable {w : World}
theorem gro_get (os : Array Obj) (d n : Nat) (hn : n < w.heap.size) : (gro w os d).heap[n]? = w.heap[n]? := by
  simp only [gro]
  exact Array.getElem?_append_left hn
@[simp, go_sem] theorem gro_size (os : Array Obj) (d : Nat) : (gro w os d).heap.size = w.heap.size + os.size := by simp [gro]
@[go_sem] theorem gro_tape (os : Array Obj) (d : Nat) : (gro w os d).tape = w.tape := rfl
@[go_sem] theorem gro_cell (os : Array Obj) (d n i : Nat) (hn : n < w.heap.size) : (gro w os d).cell? ⟨n, i, none⟩ = w.cell? ⟨n, i, none⟩ := by
  simp only [World.cell?, gro_get os d n hn]
@[go_sem] theorem gro_frozen (os : Array Obj) (d n i : Nat) (hn : n < w.heap.size) : (gro w os d).frozen? ⟨n, i, none⟩ = w.frozen? ⟨n, i, none⟩ := by
  simp only [World.frozen?, gro_get os d n hn]
@[go_sem] theorem gro_setCell (os : Array Obj) (d n i : Nat) (v : Value) (hn : n < w.heap.size) : (gro w os d).setCell ⟨n, i, none⟩ v = gro (w.setCell ⟨n, i, none⟩ v) os d := by
  unfold World.setCell gro
  congr 1
  apply Array.ext_getElem?
  intro k
  simp only [Array.getElem?_modify, Array.getElem?_append, Array.size_modify]
  by_cases hk : k = n
  · subst hk
    simp [hn]
  · have hk' : ¬ n = k := fun e => hk e.symm
    simp [hk']
theorem gro_gro (os os' : Array Obj) (d d' : Nat) : gro (gro w os d) os' d' = gro w (os ++ os') d' := by
  simp [gro]
@[go_sem] theorem gro_at_drew (os : Array Obj) (d : Nat) : gro w.drew os d = gro w os d := rfl
@[go_sem] theorem gro_at_drewN (n : Nat) (os : Array Obj) (d : Nat) : gro (w.drewN n) os d = gro w os d := rfl
theorem gro_of_alloc (o : Obj) : w.alloc o = gro w #[o] w.drawn := by
  unfold gro World.alloc
  simp
theorem gro_of_drew : w.drew = gro w #[] (w.drawn + 1) := by
  unfold gro World.drew
  simp
theorem gro_refl : w = gro w #[] w.drawn := by simp [gro]
end
@[go_sem] theorem lt_left_add {a b c : Nat} (h : a < b) : (a < b + c) = True := by simp; omega
@[go_sem] theorem setCell_drewN (w : World) (n : Nat) (p : Addr) (v : Value) : (w.drewN n).setCell p v = (w.setCell p v).drewN n := rfl
@[go_sem] theorem alloc_drewN (w : World) (n : Nat) (o : Obj) : (w.drewN n).alloc o = (w.alloc o).drewN n := rfl
/-- block n lies in w: shown by rules without conditions (simp's depth of conditions is small) -/
def InW (n : Nat) (w : World) : Prop := n < w.heap.size
@[go_sem] theorem inW_alloc (n : Nat) (w : World) (o : Obj) : InW n (w.alloc o) = (n = w.heap.size ∨ InW n w) := by
  unfold InW
  rw [World.size_alloc]
  exact propext ⟨fun h => by omega, fun h => by omega⟩
@[go_sem] theorem inW_gro (n : Nat) (w : World) (os : Array Obj) (d : Nat) : InW n (gro w os d) = (InW n w ∨ (w.heap.size ≤ n ∧ n < w.heap.size + os.size)) := by
  unfold InW
  rw [gro_size]
  exact propext ⟨fun h => by omega, fun h => by omega⟩
@[go_sem] theorem inW_drew (n : Nat) (w : World) : InW n w.drew = InW n w := rfl
@[go_sem] theorem inW_drewN (n k : Nat) (w : World) : InW n (w.drewN k) = InW n w := rfl
@[go_sem] theorem inW_setCell (n : Nat) (w : World) (p : Addr) (v : Value) : InW n (w.setCell p v) = InW n w := by
  unfold InW
  rw [World.size_setCell]
@[go_sem] theorem inW_of {n : Nat} {w : World} (h : n < w.heap.size) : InW n w = True := eq_true h
section
variable {w : World}
@[go_sem] theorem cell_alloc_in (o : Obj) (n i : Nat) (hn : InW n w) : (w.alloc o).cell? ⟨n, i, none⟩ = w.cell? ⟨n, i, none⟩ := World.cell?_alloc_past o n i hn
@[go_sem] theorem frozen_alloc_in (o : Obj) (n i : Nat) (hn : InW n w) : (w.alloc o).frozen? ⟨n, i, none⟩ = w.frozen? ⟨n, i, none⟩ := World.frozen?_alloc_past o n i hn
@[go_sem] theorem setCell_alloc_in (o : Obj) (n i : Nat) (v : Value) (hn : InW n w) : (w.alloc o).setCell ⟨n, i, none⟩ v = (w.setCell ⟨n, i, none⟩ v).alloc o := World.setCell_alloc_past o n i v hn
@[go_sem] theorem cell_gro_in (os : Array Obj) (d n i : Nat) (hn : InW n w) : (gro w os d).cell? ⟨n, i, none⟩ = w.cell? ⟨n, i, none⟩ := gro_cell os d n i hn
@[go_sem] theorem frozen_gro_in (os : Array Obj) (d n i : Nat) (hn : InW n w) : (gro w os d).frozen? ⟨n, i, none⟩ = w.frozen? ⟨n, i, none⟩ := gro_frozen os d n i hn
@[go_sem] theorem setCell_gro_in (os : Array Obj) (d n i : Nat) (v : Value) (hn : InW n w) : (gro w os d).setCell ⟨n, i, none⟩ v = gro (w.setCell ⟨n, i, none⟩ v) os d := gro_setCell os d n i v hn
end
/-- new blocks, draws, and nothing else -/
def Gro (w w' : World) : Prop := ∃ os d, w' = gro w os d
theorem Gro.refl (w : World) : Gro w w := ⟨_, _, gro_refl⟩
theorem Gro.refl_drew (a : World) (os : Array Obj) (d : Nat) : Gro (gro a.drew os d) (gro a os d) := Gro.refl (gro a os d)
theorem Gro.refl_drewN (a : World) (n : Nat) (os : Array Obj) (d : Nat) : Gro (gro (a.drewN n) os d) (gro a os d) := Gro.refl (gro a os d)
theorem Gro.of (w : World) (os : Array Obj) (d : Nat) : Gro w (gro w os d) := ⟨_, _, rfl⟩
theorem Gro.trans {a b c : World} (h : Gro a b) (k : Gro b c) : Gro a c := by
  obtain ⟨o, d, rfl⟩ := h
  obtain ⟨o', d', rfl⟩ := k
  exact ⟨_, _, gro_gro _ _ _ _⟩
theorem Gro.alloc {a b : World} (h : Gro a b) (o : Obj) : Gro a (b.alloc o) := h.trans ⟨_, _, gro_of_alloc o⟩
theorem Gro.drew {a b : World} (h : Gro a b) : Gro a b.drew := h.trans ⟨_, _, gro_of_drew⟩
theorem Gro.more {a b : World} (h : Gro a b) (os : Array Obj) (d : Nat) : Gro a (gro b os d) := h.trans ⟨_, _, rfl⟩
theorem Gro.size {a b : World} (h : Gro a b) : a.heap.size ≤ b.heap.size := by
  obtain ⟨o, d, rfl⟩ := h
  rw [gro_size]
  omega
theorem Gro.block {a b : World} (h : Gro a b) {k : Nat} (hk : k < a.heap.size) : b.heap[k]? = a.heap[k]? := by
  obtain ⟨o, d, rfl⟩ := h
  exact gro_get _ _ _ hk
theorem Gro.below {a b : World} (h : Gro a b) : Below a.heap.size a b := by
  obtain ⟨o, d, rfl⟩ := h
  exact ⟨rfl, rfl, rfl, by simp [gro], fun k hk => gro_get _ _ _ hk⟩
theorem Gro.of_below {a b : World} (h : Below a.heap.size a b) : Gro a b := by
  refine ⟨b.heap.extract a.heap.size b.heap.size, b.drawn, ?_⟩
  have hh : b.heap = a.heap ++ b.heap.extract a.heap.size b.heap.size := by
    apply Array.ext_getElem?
    intro k
    rw [Array.getElem?_append]
    split
    · rename_i hk
      exact h.block k hk
    · rename_i hk
      rw [Array.getElem?_extract]
      have := h.size
      split
      · congr 1
        omega
      · rw [Array.getElem?_eq_none]
        omega
  unfold gro
  rw [← hh]
  have h1 := h.os
  have h2 := h.tape
  have h3 := h.output
  cases a
  cases b
  simp only at h1 h2 h3
  subst h1 h2 h3
  rfl
/-- behind a law that ends in 'grownBy': the row that may have turned lies beyond W0 -/
theorem Gro.grown {W0 W w' : World} {row : Option Nat} (h : Gro W0 W) (hg : W.grownBy w' row) (hr : ∀ k, row = some k → W0.heap.size ≤ k) : Gro W0 w' :=
  Gro.of_below (h.below.grown hg h.size hr)
theorem Gro.setRow {W0 W : World} (h : Gro W0 W) {p : Addr} (hp : W0.heap.size ≤ p.block) (u : Value) : Gro W0 (W.setCell p u) :=
  Gro.of_below (h.below.setCell hp u)

/-- the blocks from n to m are the same -/
def Same (n m : Nat) (w w' : World) : Prop := ∀ k, n ≤ k → k < m → w'.heap[k]? = w.heap[k]?
theorem Same.refl (n m : Nat) (w : World) : Same n m w w := fun _ _ _ => rfl
theorem Same.base {a b : World} {os : Array Obj} {d d' n m : Nat} (h : b.heap.size = a.heap.size) (hn : a.heap.size ≤ n) : Same n m (gro a os d) (gro b os d') := by
  intro k hk _
  simp only [Go.Proofs.Ytbhobjepjaeffaa.gro]
  rw [Array.getElem?_append_right (by omega), Array.getElem?_append_right (by omega), h]
theorem Same.more {n m : Nat} {a b : World} (h : Same n m a b) (hm : m ≤ b.heap.size) (os : Array Obj) (d : Nat) : Same n m a (Go.Proofs.Ytbhobjepjaeffaa.gro b os d) :=
  fun k h1 h2 => (gro_get os d k (by omega)).trans (h k h1 h2)
theorem Same.alloc {n m : Nat} {a b : World} (h : Same n m a b) (hm : m ≤ b.heap.size) (o : Obj) : Same n m a (b.alloc o) :=
  fun k h1 h2 => (Below.heap_alloc b o k (by omega)).trans (h k h1 h2)
theorem Same.drew {n m : Nat} {a b : World} (h : Same n m a b) : Same n m a b.drew := h
theorem Same.drewN {n m k : Nat} {a b : World} (h : Same n m a b) : Same n m a (b.drewN k) := h
theorem Same.gro {n : Nat} {a b : World} (h : Gro a b) : Same n a.heap.size a b := fun _ _ h2 => h.block h2
/-! ### only the blocks of S have turned -/
structure OnlyS (S : List Nat) (w w' : World) : Prop where
  os : w'.os = w.os
  tape : w'.tape = w.tape
  output : w'.output = w.output
  size : w.heap.size ≤ w'.heap.size
  block : ∀ k, k < w.heap.size → k ∉ S → w'.heap[k]? = w.heap[k]?
theorem OnlyS.refl (S : List Nat) (w : World) : OnlyS S w w := ⟨rfl, rfl, rfl, Nat.le_refl _, fun _ _ _ => rfl⟩
theorem OnlyS.trans {S : List Nat} {a b c : World} (h : OnlyS S a b) (k : OnlyS S b c) : OnlyS S a c :=
  ⟨k.os.trans h.os, k.tape.trans h.tape, k.output.trans h.output, Nat.le_trans h.size k.size, fun i hi hn => (k.block i (Nat.lt_of_lt_of_le hi h.size) hn).trans (h.block i hi hn)⟩
theorem OnlyS.mono {S S' : List Nat} {a b : World} (h : OnlyS S a b) (hs : ∀ k ∈ S, k ∈ S') : OnlyS S' a b :=
  ⟨h.os, h.tape, h.output, h.size, fun i hi hn => h.block i hi (fun hm => hn (hs i hm))⟩
theorem Gro.only {a b : World} (h : Gro a b) (S : List Nat) : OnlyS S a b := by
  have hb := h.below
  exact ⟨hb.os, hb.tape, hb.output, hb.size, fun k hk _ => hb.block k hk⟩
theorem OnlyS.setCell {S : List Nat} {a b : World} (h : OnlyS S a b) {p : Addr} (hp : p.block ∈ S) (u : Value) : OnlyS S a (b.setCell p u) :=
  h.trans ⟨rfl, rfl, rfl, by simp, fun k _ hn => Below.heap_setCell _ _ _ _ (fun e => hn (by rw [e]; exact hp))⟩
theorem OnlyS.cell {S : List Nat} {a b : World} (h : OnlyS S a b) {g : Nat} (hg : g < a.heap.size) (hn : g ∉ S) (i : Nat) : b.cell? ⟨g, i, none⟩ = a.cell? ⟨g, i, none⟩ :=
  World.cell?_of_block (h.block g hg hn)
theorem OnlyS.gro {S : List Nat} {W0 a b : World} (h : OnlyS S a b) (hg : Gro W0 a) (hs : ∀ k ∈ S, W0.heap.size ≤ k) : Gro W0 b :=
  Gro.of_below ⟨h.os.trans hg.below.os, h.tape.trans hg.below.tape, h.output.trans hg.below.output, Nat.le_trans hg.size h.size, fun k hk =>
    (h.block k (Nat.lt_of_lt_of_le hk hg.size) (fun hm => by have := hs k hm; omega)).trans (hg.block hk)⟩

/-! ### how a Go type's cells read -/
structure Ty (α : Type) where
  size : Nat
  R : World → Nat → List Value → α → Prop
  O : World → List Value → α → List Nat → Prop
  lenR : ∀ {w B cs x}, R w B cs x → cs.length = size
  lenO : ∀ {w cs x S}, O w cs x S → cs.length = size
  oneO : ∀ {w cs x S}, O w cs x S → ∀ u ∈ cs, u.oneCell' = true
  oneR : ∀ {w B cs x}, R w B cs x → ∀ u ∈ cs, u.oneCell' = true
  keepR : ∀ {w w' B B' cs x}, R w B cs x → (∀ k, k < B → w'.heap[k]? = w.heap[k]?) → B ≤ B' → R w' B' cs x
  keepO : ∀ {w w' cs x S}, O w cs x S → (∀ k ∈ S, w'.heap[k]? = w.heap[k]?) → O w' cs x S
  ltO : ∀ {w cs x S}, O w cs x S → ∀ k ∈ S, k < w.heap.size
  OR : ∀ {w cs x S B}, O w cs x S → (∀ k ∈ S, k < B) → R w B cs x
theorem Ty.gro {α : Type} (T : Ty α) {w w' : World} {B : Nat} {cs : List Value} {x : α} (h : T.R w B cs x) (hg : Gro w w') (hB : B ≤ w.heap.size) : T.R w' B cs x :=
  T.keepR h (fun _ hk => hg.block (by omega)) (Nat.le_refl _)
theorem Ty.up {α : Type} (T : Ty α) {w w' : World} {cs : List Value} {x : α} (h : T.R w w.heap.size cs x) (hg : Gro w w') : T.R w' w'.heap.size cs x :=
  T.keepR h (fun _ hk => hg.block hk) hg.size
theorem Ty.groO {α : Type} (T : Ty α) {w w' : World} {cs : List Value} {x : α} {S : List Nat} (h : T.O w cs x S) (hg : Gro w w') : T.O w' cs x S :=
  T.keepO h fun _ hk => hg.block (T.ltO h _ hk)
theorem Ty.same {α : Type} (T : Ty α) {w w' : World} {cs : List Value} {x : α} {S : List Nat} {n : Nat} (h : T.O w cs x S) (hL : ∀ b ∈ S, n ≤ b) (hs : Same n w.heap.size w w') : T.O w' cs x S :=
  T.keepO h fun k hk => hs k (hL k hk) (T.ltO h k hk)
theorem Ty.read {α : Type} (T : Ty α) {w : World} {cs : List Value} {x : α} {S : List Nat} (h : T.O w cs x S) : T.R w w.heap.size cs x := T.OR h (T.ltO h)

/-- fits int64 -/
def I64 (x : Int) : Prop := -9223372036854775808 ≤ x ∧ x ≤ 9223372036854775807
/-- an int -/
def intT : Ty Int where
  size := 1
  R := fun _ _ cs x => cs = [.int .i64 x] ∧ -9223372036854775808 ≤ x ∧ x ≤ 9223372036854775807
  O := fun _ cs x S => cs = [.int .i64 x] ∧ -9223372036854775808 ≤ x ∧ x ≤ 9223372036854775807 ∧ S = []
  lenR := by rintro _ _ _ _ ⟨rfl, _⟩; rfl
  lenO := by rintro _ _ _ _ ⟨rfl, _⟩; rfl
  oneO := by rintro _ _ _ _ ⟨rfl, _⟩ u hu; simp at hu; subst hu; rfl
  oneR := by rintro _ _ _ _ ⟨rfl, _⟩ u hu; simp at hu; subst hu; rfl
  keepR := by rintro _ _ _ _ _ _ h _ _; exact h
  keepO := by rintro _ _ _ _ _ h _; exact h
  ltO := by rintro _ _ _ _ ⟨_, _, _, rfl⟩ k hk; simp at hk
  OR := by rintro _ _ _ _ _ ⟨h1, h2, h3, _⟩ _; exact ⟨h1, h2, h3⟩
/-- a string -/
def strT : Ty ByteArray where
  size := 1
  R := fun _ _ cs x => cs = [.string x] ∧ x.size ≤ 9223372036854775807
  O := fun _ cs x S => cs = [.string x] ∧ x.size ≤ 9223372036854775807 ∧ S = []
  lenR := by rintro _ _ _ _ ⟨rfl, _⟩; rfl
  lenO := by rintro _ _ _ _ ⟨rfl, _⟩; rfl
  oneO := by rintro _ _ _ _ ⟨rfl, _⟩ u hu; simp at hu; subst hu; rfl
  oneR := by rintro _ _ _ _ ⟨rfl, _⟩ u hu; simp at hu; subst hu; rfl
  keepR := by rintro _ _ _ _ _ _ h _ _; exact h
  keepO := by rintro _ _ _ _ _ h _; exact h
  ltO := by rintro _ _ _ _ ⟨_, _, rfl⟩ k hk; simp at hk
  OR := by rintro _ _ _ _ _ ⟨h1, h2, _⟩ _; exact ⟨h1, h2⟩
/-- two fields, one behind the other -/
def Ty.prod {α β : Type} (T : Ty α) (U : Ty β) : Ty (α × β) where
  size := T.size + U.size
  R := fun w B cs x => ∃ c1 c2, cs = c1 ++ c2 ∧ T.R w B c1 x.1 ∧ U.R w B c2 x.2
  O := fun w cs x S => ∃ c1 c2 S1 S2, cs = c1 ++ c2 ∧ S = S1 ++ S2 ∧ T.O w c1 x.1 S1 ∧ U.O w c2 x.2 S2
  lenR := by rintro _ _ _ _ ⟨c1, c2, rfl, h1, h2⟩; simp [T.lenR h1, U.lenR h2]
  lenO := by rintro _ _ _ _ ⟨c1, c2, _, _, rfl, _, h1, h2⟩; simp [T.lenO h1, U.lenO h2]
  oneO := by
    rintro _ _ _ _ ⟨c1, c2, _, _, rfl, _, h1, h2⟩ u hu
    rcases List.mem_append.1 hu with hu | hu
    · exact T.oneO h1 u hu
    · exact U.oneO h2 u hu
  oneR := by
    rintro _ _ _ _ ⟨c1, c2, rfl, h1, h2⟩ u hu
    rcases List.mem_append.1 hu with hu | hu
    · exact T.oneR h1 u hu
    · exact U.oneR h2 u hu
  keepR := by rintro _ _ _ _ _ _ ⟨c1, c2, rfl, h1, h2⟩ hk hB; exact ⟨c1, c2, rfl, T.keepR h1 hk hB, U.keepR h2 hk hB⟩
  keepO := by
    rintro _ _ _ _ _ ⟨c1, c2, S1, S2, rfl, rfl, h1, h2⟩ hk
    exact ⟨c1, c2, S1, S2, rfl, rfl, T.keepO h1 (fun k hk1 => hk k (List.mem_append_left _ hk1)), U.keepO h2 (fun k hk2 => hk k (List.mem_append_right _ hk2))⟩
  ltO := by
    rintro _ _ _ _ ⟨c1, c2, S1, S2, rfl, rfl, h1, h2⟩ k hk
    rcases List.mem_append.1 hk with hk | hk
    · exact T.ltO h1 k hk
    · exact U.ltO h2 k hk
  OR := by
    rintro _ _ _ _ _ ⟨c1, c2, S1, S2, rfl, rfl, h1, h2⟩ hk
    exact ⟨c1, c2, rfl, T.OR h1 (fun k hk1 => hk k (List.mem_append_left _ hk1)), U.OR h2 (fun k hk2 => hk k (List.mem_append_right _ hk2))⟩
/-- the same cells, read as another datum -/
def Ty.via {α β : Type} (T : Ty α) (f : β → α) : Ty β where
  size := T.size
  R := fun w B cs x => T.R w B cs (f x)
  O := fun w cs x S => T.O w cs (f x) S
  lenR := T.lenR
  lenO := T.lenO
  oneO := T.oneO
  oneR := T.oneR
  keepR := T.keepR
  keepO := T.keepO
  ltO := T.ltO
  OR := T.OR
/-- rows of elements, one behind the other, as owned cells -/
def Rows {α : Type} (T : Ty α) (w : World) : List Value → List α → List Nat → Prop
  | cs, [], S => cs = [] ∧ S = []
  | cs, x :: xs, S => ∃ c1 c2 S1 S2, cs = c1 ++ c2 ∧ S = S1 ++ S2 ∧ T.O w c1 x S1 ∧ Rows T w c2 xs S2
section
variable {α : Type} {T : Ty α} {w w' : World}
theorem Rows.len : ∀ {xs : List α} {cs : List Value} {S : List Nat}, Rows T w cs xs S → cs.length = xs.length * T.size
  | [], _, _, h => by simp [h.1]
  | x :: xs, _, _, ⟨c1, c2, S1, S2, h1, _, h3, h4⟩ => by
    subst h1
    rw [List.length_append, T.lenO h3, Rows.len h4, List.length_cons, Nat.add_mul, Nat.one_mul, Nat.add_comm]
theorem Rows.one : ∀ {xs : List α} {cs : List Value} {S : List Nat}, Rows T w cs xs S → ∀ u ∈ cs, u.oneCell' = true
  | [], _, _, h => by simp [h.1]
  | x :: xs, _, _, ⟨c1, c2, S1, S2, h1, _, h3, h4⟩ => by
    subst h1
    intro u hu
    rcases List.mem_append.1 hu with hu | hu
    · exact T.oneO h3 u hu
    · exact Rows.one h4 u hu
theorem Rows.keep : ∀ {xs : List α} {cs : List Value} {S : List Nat}, Rows T w cs xs S → (∀ k ∈ S, w'.heap[k]? = w.heap[k]?) → Rows T w' cs xs S
  | [], _, _, h, _ => h
  | x :: xs, _, _, ⟨c1, c2, S1, S2, h1, h2, h3, h4⟩, hk => by
    subst h2
    exact ⟨c1, c2, S1, S2, h1, rfl, T.keepO h3 (fun k hk1 => hk k (List.mem_append_left _ hk1)), Rows.keep h4 (fun k hk2 => hk k (List.mem_append_right _ hk2))⟩
theorem Rows.lt : ∀ {xs : List α} {cs : List Value} {S : List Nat}, Rows T w cs xs S → ∀ k ∈ S, k < w.heap.size
  | [], _, _, h => by simp [h.2]
  | x :: xs, _, _, ⟨c1, c2, S1, S2, h1, h2, h3, h4⟩ => by
    subst h2
    intro k hk
    rcases List.mem_append.1 hk with hk | hk
    · exact T.ltO h3 k hk
    · exact Rows.lt h4 k hk
theorem Rows.snoc : ∀ {xs : List α} {cs : List Value} {S : List Nat}, Rows T w cs xs S → ∀ {c : List Value} {x : α} {S' : List Nat}, T.O w c x S' → Rows T w (cs ++ c) (xs ++ [x]) (S ++ S')
  | [], _, _, h, c, x, S', hx => by
    obtain ⟨rfl, rfl⟩ := h
    exact ⟨c, [], S', [], by simp, by simp, hx, rfl, rfl⟩
  | y :: ys, _, _, ⟨c1, c2, S1, S2, h1, h2, h3, h4⟩, c, x, S', hx => by
    subst h1 h2
    exact ⟨c1, c2 ++ c, S1, S2 ++ S', by simp, by simp, h3, Rows.snoc h4 hx⟩
theorem Rows.app : ∀ {xs : List α} {cs : List Value} {S : List Nat}, Rows T w cs xs S → ∀ {ys : List α} {ds : List Value} {S' : List Nat}, Rows T w ds ys S' → Rows T w (cs ++ ds) (xs ++ ys) (S ++ S')
  | [], _, _, h, ys, ds, S', hy => by
    obtain ⟨rfl, rfl⟩ := h
    simpa using hy
  | x :: xs, _, _, ⟨c1, c2, S1, S2, h1, h2, h3, h4⟩, ys, ds, S', hy => by
    subst h1 h2
    exact ⟨c1, c2 ++ ds, S1, S2 ++ S', by simp, by simp, h3, Rows.app h4 hy⟩
/-- parted at the k-th element -/
theorem Rows.part : ∀ {k : Nat} {xs : List α} {cs : List Value} {S : List Nat}, Rows T w cs xs S → ∀ {x : α}, xs[k]? = some x →
    ∃ a c b Sa Sc Sb, cs = a ++ (c ++ b) ∧ S = Sa ++ (Sc ++ Sb) ∧ a.length = k * T.size ∧ Rows T w a (xs.take k) Sa ∧ T.O w c x Sc ∧ Rows T w b (xs.drop (k + 1)) Sb
  | _, [], _, _, _, x, hx => by simp at hx
  | 0, y :: ys, _, _, ⟨c1, c2, S1, S2, h1, h2, h3, h4⟩, x, hx => by
    simp at hx
    subst hx
    exact ⟨[], c1, c2, [], S1, S2, by simp [h1], by simp [h2], by simp, ⟨rfl, rfl⟩, h3, by simpa using h4⟩
  | k + 1, y :: ys, _, _, ⟨c1, c2, S1, S2, h1, h2, h3, h4⟩, x, hx => by
    obtain ⟨a, c, b, Sa, Sc, Sb, e1, e2, e3, ha, hc, hb⟩ := Rows.part h4 (k := k) (x := x) (by simpa using hx)
    subst h1 h2 e1 e2
    refine ⟨c1 ++ a, c, b, S1 ++ Sa, Sc, Sb, by simp, by simp, ?_, ?_, hc, ?_⟩
    · rw [List.length_append, T.lenO h3, e3, Nat.add_mul, Nat.one_mul, Nat.add_comm]
    · exact ⟨c1, a, S1, Sa, rfl, rfl, h3, ha⟩
    · simpa using hb
/-- the k-th element is another -/
theorem Rows.join {k : Nat} {xs : List α} {a c b : List Value} {Sa Sc Sb : List Nat} {x y : α} (hx : xs[k]? = some x) (ha : Rows T w a (xs.take k) Sa) (hc : T.O w c y Sc) (hb : Rows T w b (xs.drop (k + 1)) Sb) :
    Rows T w (a ++ (c ++ b)) (xs.set k y) (Sa ++ (Sc ++ Sb)) := by
  have hk : k < xs.length := (List.getElem?_eq_some_iff.1 hx).1
  have e : xs.set k y = xs.take k ++ ([y] ++ xs.drop (k + 1)) := by
    rw [List.set_eq_take_append_cons_drop, if_pos hk]; rfl
  rw [e]
  exact Rows.app ha (Rows.app (show Rows T w c [y] Sc from ⟨c, [], Sc, [], by simp, by simp, hc, rfl, rfl⟩) hb)
theorem Rows.get {k : Nat} {xs : List α} {cs : List Value} {S : List Nat} (h : Rows T w cs xs S) {x : α} (hx : xs[k]? = some x) :
    ∃ c Sc, T.O w c x Sc ∧ (∀ j ∈ Sc, j ∈ S) ∧ ∀ j u, c[j]? = some u → cs[k * T.size + j]? = some u := by
  obtain ⟨a, c, b, Sa, Sc, Sb, rfl, rfl, hl, _, hc, _⟩ := h.part hx
  refine ⟨c, Sc, hc, fun j hj => by simp [hj], fun j u hu => ?_⟩
  rw [List.getElem?_append_right (by omega), hl, Nat.add_sub_cancel_left, List.getElem?_append_left (List.getElem?_eq_some_iff.1 hu).1]
  exact hu
end
def blockOf : Option Addr → List Nat
  | some a => [a.block]
  | none => []
/-- a slice of such elements; e: the element type's number -/
def Ty.sl {α : Type} (T : Ty α) (e : TypeId) : Ty (List α) where
  size := 1
  R := fun w B cs xs => ∃ A c, cs = [.slice A xs.length c] ∧ xs.length ≤ c ∧ c ≤ 9223372036854775807 ∧ (A = none → c = 0) ∧
    (0 < xs.length → ∃ g off, A = some ⟨g, off, none⟩ ∧ g < B ∧ ∀ i x, xs[i]? = some x → ∃ ec, T.R w B ec x ∧ ∀ j u, ec[j]? = some u → w.cell? ⟨g, off + i * T.size + j, none⟩ = some u)
  O := fun w cs xs S => ∃ A c ecs S', cs = [.slice A xs.length c] ∧ w.ownsRow 0 e T.size (.slice A xs.length c) xs.length ecs ∧ Rows T w ecs xs S' ∧ S = blockOf A ++ S'
  lenR := by rintro _ _ _ _ ⟨A, c, rfl, _⟩; rfl
  lenO := by rintro _ _ _ _ ⟨A, c, _, _, rfl, _⟩; rfl
  oneO := by rintro _ _ _ _ ⟨A, c, _, _, rfl, _⟩ u hu; simp at hu; subst hu; rfl
  oneR := by rintro _ _ _ _ ⟨A, c, rfl, _⟩ u hu; simp at hu; subst hu; rfl
  keepR := by
    rintro w w' B B' cs xs ⟨A, c, rfl, h1, h2, h3, h4⟩ hk hB
    refine ⟨A, c, rfl, h1, h2, h3, fun hp => ?_⟩
    obtain ⟨g, off, rfl, hg, h5⟩ := h4 hp
    refine ⟨g, off, rfl, by omega, fun i x hx => ?_⟩
    obtain ⟨ec, h6, h7⟩ := h5 i x hx
    exact ⟨ec, T.keepR h6 hk hB, fun j u hu => (World.cell?_of_block (hk g hg)).trans (h7 j u hu)⟩
  keepO := by
    rintro w w' cs xs S ⟨A, c, ecs, S', rfl, h1, h2, rfl⟩ hk
    refine ⟨A, c, ecs, S', rfl, ?_, Rows.keep h2 (fun k hk' => hk k (List.mem_append_right _ hk')), rfl⟩
    refine ⟨h1.1, ?_⟩
    rcases h1.2 with h | ⟨g, cap, cur, hv, hb, hg, rest⟩
    · exact .inl h
    · have hv' := hv
      injection hv' with hA _ _
      subst hA
      exact .inr ⟨g, cap, cur, hv, hb, (hk g (by simp [blockOf])).trans hg, rest⟩
  ltO := by
    rintro w cs xs S ⟨A, c, ecs, S', rfl, h1, h2, rfl⟩ k hk
    rcases List.mem_append.1 hk with hk | hk
    · cases A with
      | none => simp [blockOf] at hk
      | some a =>
        simp [blockOf] at hk
        exact (h1.lt k (by simp [Value.ownBlock, hk])).2
    · exact Rows.lt h2 k hk
  OR := by
    rintro w cs xs S B ⟨A, c, ecs, S', rfl, h1, h2, rfl⟩ hk
    obtain ⟨hlen, hrest⟩ := h1
    rcases hrest with ⟨hv, hn⟩ | ⟨g, cap, cur, hv, _, hg, hnc, hcm, hcs, htake⟩
    · injection hv with hA _ hc
      subst hA hc
      exact ⟨none, 0, rfl, by omega, Nat.zero_le _, fun _ => rfl, fun hp => by omega⟩
    · injection hv with hA _ hc
      subst hA hc
      refine ⟨_, _, rfl, hnc, by simpa [maxLen] using hcm, fun h => by simp at h, fun _ => ⟨g, 0, rfl, hk g (by simp [blockOf]), fun i x hx => ?_⟩⟩
      obtain ⟨ec, Sc, hO, hS, hget⟩ := Rows.get h2 hx
      refine ⟨ec, T.OR hO (fun k hk' => hk k (List.mem_append_right _ (hS k hk'))), fun j u hu => ?_⟩
      rw [cell_of_row w g _ cur e (0, 0) hg, Nat.zero_add]
      have hj := hget j u hu
      rw [← htake, List.getElem?_take] at hj
      split at hj
      · simpa using hj
      · cases hj
theorem sl_at {α : Type} {T : Ty α} {e : TypeId} {w : World} {B : Nat} {v : Value} {xs : List α} (h : (T.sl e).R w B [v] xs) : ∃ A c, v = .slice A xs.length c ∧ xs.length ≤ c ∧ c ≤ 9223372036854775807 := by
  obtain ⟨A, c, h1, h2, h3, _⟩ := h
  exact ⟨A, c, by simpa using h1, h2, h3⟩
/-- one element of a list, as the walk wants it -/
theorem elem_at {α : Type} {T : Ty α} {e : TypeId} {w : World} {B : Nat} {A : Option Addr} {n c : Nat} {xs : List α} (h : (T.sl e).R w B [.slice A n c] xs) {k : Nat} (hk : k < xs.length) :
    ∃ g off x ec, A = some ⟨g, off, none⟩ ∧ g < B ∧ xs[k]? = some x ∧ T.R w B ec x ∧ ∀ j u, ec[j]? = some u → w.cell? ⟨g, off + k * T.size + j, none⟩ = some u := by
  obtain ⟨A', c', h1, _, _, _, h5⟩ := h
  obtain ⟨g, off, rfl, hg, h6⟩ := h5 (by omega)
  injection h1 with h1 _
  injection h1 with h1 _ _
  have hx : xs[k]? = some xs[k] := List.getElem?_eq_getElem hk
  obtain ⟨ec, h7, h8⟩ := h6 k _ hx
  exact ⟨g, off, xs[k], ec, h1, hg, hx, h7, h8⟩
theorem ints_at {e : TypeId} {w : World} {B : Nat} {A : Option Addr} {n c : Nat} {xs : List Int} (h : (intT.sl e).R w B [.slice A n c] xs) {k : Nat} (hk : k < xs.length) :
    ∃ g off x, A = some ⟨g, off, none⟩ ∧ xs[k]? = some x ∧ w.cell? ⟨g, off + k, none⟩ = some (.int .i64 x) ∧ -9223372036854775808 ≤ x ∧ x ≤ 9223372036854775807 := by
  obtain ⟨g, off, x, ec, h1, _, h2, ⟨rfl, b1, b2⟩, h4⟩ := elem_at h hk
  have := h4 0 _ rfl
  simp only [intT, Nat.mul_one, Nat.add_zero] at this
  exact ⟨g, off, x, h1, h2, this, b1, b2⟩
theorem heap_setCell_at {w : World} {g : Nat} {cur : Array Value} {e : TypeId} (hg : w.heap[g]? = some (.cells cur e (0, 0))) (i : Nat) (u : Value) : (w.setCell ⟨g, i, none⟩ u).heap[g]? = some (.cells (cur.setIfInBounds i u) e (0, 0)) := by
  simp [World.setCell, Array.getElem?_modify, hg]
/-- one element of an owned list: its cells, as they stand; and what a store into it leaves -/
theorem own_elem {α : Type} {T : Ty α} {e : TypeId} {w : World} {A : Option Addr} {n c : Nat} {xs : List α} {S : List Nat} (h : (T.sl e).O w [.slice A n c] xs S) (hS : S.Nodup) {k : Nat} {x : α} (hx : xs[k]? = some x) :
    ∃ g ec Sc, A = some ⟨g, 0, none⟩ ∧ g ∈ S ∧ g < w.heap.size ∧ g ∉ Sc ∧ (∀ j ∈ Sc, j ∈ S) ∧ Sc.Nodup ∧ T.O w ec x Sc ∧ (∀ j, w.frozen? ⟨g, j, none⟩ = false) ∧ (∀ j u, ec[j]? = some u → w.cell? ⟨g, k * T.size + j, none⟩ = some u) ∧
      (∀ j u y, j < T.size → u.oneCell' = true → T.O w (ec.set j u) y Sc → (T.sl e).O (w.setCell ⟨g, k * T.size + j, none⟩ u) [.slice A n c] (xs.set k y) S ∧ OnlyS S w (w.setCell ⟨g, k * T.size + j, none⟩ u)) ∧
      (∀ w' y, OnlyS Sc w w' → T.O w' ec y Sc → (T.sl e).O w' [.slice A n c] (xs.set k y) S) := by
  obtain ⟨A', c', ecs, S', h1, h2, h3, rfl⟩ := h
  injection h1 with h1 _
  injection h1 with hA hn hc
  subst hA hn hc
  have hk : k < xs.length := (List.getElem?_eq_some_iff.1 hx).1
  obtain ⟨a, ec, b, Sa, Sc, Sb, rfl, rfl, hl, ha, hO, hb⟩ := Rows.part h3 hx
  obtain ⟨hlen, hrest⟩ := h2
  rcases hrest with ⟨_, hn⟩ | ⟨g, cap, cur, hv, hbase, hg, hnc, hcm, hcs, htake⟩
  · omega
  · injection hv with hA _ hc
    subst hA hc
    have hgl : g < w.heap.size := (Array.getElem?_eq_some_iff.1 hg).1
    simp only [blockOf, List.singleton_append, List.nodup_cons, List.nodup_append, List.mem_append, not_or] at hS
    obtain ⟨⟨hga, hgc, hgb⟩, hna, ⟨hncd, hnb, hdcb⟩, hda⟩ := hS
    have hec : ec.length = T.size := T.lenO hO
    have hlc : (a ++ (ec ++ b)).length ≤ cur.size := by
      rw [← htake, List.length_take]
      have : cur.toList.length = cur.size := Array.length_toList
      omega
    have hcell : ∀ (j : Nat) (u : Value), (a ++ (ec ++ b))[j]? = some u → cur[j]? = some u := by
      intro j u hu
      rw [← htake, List.getElem?_take] at hu
      split at hu
      · simpa using hu
      · cases hu
    refine ⟨g, ec, Sc, rfl, by simp [blockOf], hgl, hgc, fun j hj => by simp [hj], hncd, hO, fun j => by simp [World.frozen?, hg], fun j u hu => ?_, fun j u y hj h1 hy => ?_, fun w' y ho hy => ?_⟩
    · rw [cell_of_row w g _ cur e (0, 0) hg]
      apply hcell
      rw [List.getElem?_append_right (by omega), hl, Nat.add_sub_cancel_left, List.getElem?_append_left (List.getElem?_eq_some_iff.1 hu).1]
      exact hu
    · have hother : ∀ i, i ≠ g → (w.setCell ⟨g, k * T.size + j, none⟩ u).heap[i]? = w.heap[i]? := fun i hi => Below.heap_setCell w _ u i hi
      refine ⟨⟨some ⟨g, 0, none⟩, c, a ++ (ec.set j u ++ b), _, by rw [List.length_set], ⟨?_, .inr ⟨g, c, cur.setIfInBounds (k * T.size + j) u, by rw [List.length_set], hbase, heap_setCell_at hg _ _, by simpa using hnc, hcm, by simpa using hcs, ?_⟩⟩, Rows.join hx (Rows.keep ha ?_) (T.keepO hy ?_) (Rows.keep hb ?_), rfl⟩, ?_⟩
      · rw [List.length_set, ← hlen]
        simp
      · rw [List.length_set, Array.toList_setIfInBounds, List.take_set, htake, List.set_append_right _ _ (by omega), hl, Nat.add_sub_cancel_left, List.set_append_left _ _ (by omega)]
      · exact fun i hi => hother i (fun e => hga (e ▸ hi))
      · exact fun i hi => hother i (fun e => hgc (e ▸ hi))
      · exact fun i hi => hother i (fun e => hgb (e ▸ hi))
      · exact (OnlyS.refl _ _).setCell (by simp [blockOf]) u
    · have hk' : ∀ i, i < w.heap.size → i ∉ Sc → w'.heap[i]? = w.heap[i]? := ho.block
      refine ⟨some ⟨g, 0, none⟩, c, a ++ (ec ++ b), _, by rw [List.length_set], ⟨by rw [List.length_set, ← hlen], .inr ⟨g, c, cur, by rw [List.length_set], hbase, (hk' g hgl hgc).trans hg, by simpa using hnc, hcm, hcs, by rw [List.length_set]; exact htake⟩⟩, Rows.join hx (Rows.keep ha ?_) hy (Rows.keep hb ?_), rfl⟩
      · exact fun i hi => hk' i (Rows.lt ha i hi) (fun hc => hda i hi i (.inl hc) rfl)
      · exact fun i hi => hk' i (Rows.lt hb i hi) (fun hc => hdcb i hc i hi rfl)
theorem gro_of_drewN (w : World) (n : Nat) : Gro w (w.drewN n) := by
  induction n with
  | zero => exact Gro.refl _
  | succ n ih => exact ih.drew
theorem Gro.drewN {a b : World} (h : Gro a b) (n : Nat) : Gro a (b.drewN n) := h.trans (gro_of_drewN _ _)
theorem take_snoc {α : Type} {xs : List α} {k : Nat} {x : α} (h : xs[k]? = some x) : xs.take (k + 1) = xs.take k ++ [x] := by
  rw [List.take_add_one, h]; rfl
theorem gro_keeps {w : World} {a : Addr} {v : Value} (h : w.cell? a = some v) (os : Array Obj) (d : Nat) : (gro w os d).cell? a = some v := by
  have hb := World.block_lt_of_cell? w a h
  rw [← h]
  simp only [World.cell?, gro_get os d _ hb]
theorem alloc_keeps {w : World} {a : Addr} {v : Value} (h : w.cell? a = some v) (o : Obj) : (w.alloc o).cell? a = some v := by
  rw [gro_of_alloc]
  exact gro_keeps h _ _
theorem drew_keeps {w : World} {a : Addr} {v : Value} (h : w.cell? a = some v) : w.drew.cell? a = some v := h
/-- a fresh datum: owned, no block twice, all its blocks new since w -/
def Fresh {α : Type} (T : Ty α) (w w' : World) (cs : List Value) (x : α) : Prop := ∃ S, T.O w' cs x S ∧ S.Nodup ∧ ∀ b ∈ S, w.heap.size ≤ b
theorem Fresh.gro {α : Type} {T : Ty α} {w w1 w2 : World} {cs : List Value} {x : α} (h : Fresh T w w1 cs x) (hg : Gro w1 w2) : Fresh T w w2 cs x := by
  obtain ⟨S, h1, h2, h3⟩ := h
  exact ⟨S, T.groO h1 hg, h2, h3⟩
theorem Fresh.since {α : Type} {T : Ty α} {w0 w w1 : World} {cs : List Value} {x : α} (h : Fresh T w w1 cs x) (hg : w0.heap.size ≤ w.heap.size) : Fresh T w0 w1 cs x := by
  obtain ⟨S, h1, h2, h3⟩ := h
  exact ⟨S, h1, h2, fun b hb => Nat.le_trans hg (h3 b hb)⟩
theorem Fresh.read {α : Type} {T : Ty α} {w w1 : World} {cs : List Value} {x : α} (h : Fresh T w w1 cs x) : T.R w1 w1.heap.size cs x := by
  obtain ⟨S, h1, _, _⟩ := h
  exact T.read h1
/-- fresh since W0, and all its blocks below hi -/
def Fre {α : Type} (T : Ty α) (W0 : World) (hi : Nat) (W : World) (cs : List Value) (x : α) : Prop := ∃ S, T.O W cs x S ∧ S.Nodup ∧ ∀ b ∈ S, W0.heap.size ≤ b ∧ b < hi
theorem Fresh.fre {α : Type} {T : Ty α} {w w1 : World} {cs : List Value} {x : α} (h : Fresh T w w1 cs x) : Fre T w w1.heap.size w1 cs x := by
  obtain ⟨S, h1, h2, h3⟩ := h
  exact ⟨S, h1, h2, fun b hb => ⟨h3 b hb, T.ltO h1 b hb⟩⟩
theorem Fre.fresh {α : Type} {T : Ty α} {w w1 : World} {hi : Nat} {cs : List Value} {x : α} (h : Fre T w hi w1 cs x) : Fresh T w w1 cs x := by
  obtain ⟨S, h1, h2, h3⟩ := h
  exact ⟨S, h1, h2, fun b hb => (h3 b hb).1⟩
theorem Fre.same {α : Type} {T : Ty α} {w w1 w2 : World} {hi : Nat} {cs : List Value} {x : α} (h : Fre T w hi w1 cs x) (hs : Same w.heap.size hi w1 w2) : Fre T w hi w2 cs x := by
  obtain ⟨S, h1, h2, h3⟩ := h
  exact ⟨S, T.keepO h1 (fun k hk => hs k (h3 k hk).1 (h3 k hk).2), h2, h3⟩
theorem Fre.gro {α : Type} {T : Ty α} {w w1 w2 : World} {hi : Nat} {cs : List Value} {x : α} (h : Fre T w hi w1 cs x) (hg : Gro w1 w2) : Fre T w hi w2 cs x := by
  obtain ⟨S, h1, h2, h3⟩ := h
  exact ⟨S, T.groO h1 hg, h2, h3⟩
theorem Fre.up {α : Type} {T : Ty α} {w w1 : World} {hi hi' : Nat} {cs : List Value} {x : α} (h : Fre T w hi w1 cs x) (hh : hi ≤ hi') : Fre T w hi' w1 cs x := by
  obtain ⟨S, h1, h2, h3⟩ := h
  exact ⟨S, h1, h2, fun b hb => ⟨(h3 b hb).1, Nat.lt_of_lt_of_le (h3 b hb).2 hh⟩⟩
theorem Fre.read {α : Type} {T : Ty α} {w w1 : World} {hi : Nat} {cs : List Value} {x : α} (h : Fre T w hi w1 cs x) : T.R w1 w1.heap.size cs x := h.fresh.read
theorem Fre.since {α : Type} {T : Ty α} {w0 w w1 : World} {hi : Nat} {cs : List Value} {x : α} (h : Fre T w hi w1 cs x) (hg : w0.heap.size ≤ w.heap.size) : Fre T w0 hi w1 cs x := by
  obtain ⟨S, h1, h2, h3⟩ := h
  exact ⟨S, h1, h2, fun b hb => ⟨Nat.le_trans hg (h3 b hb).1, (h3 b hb).2⟩⟩
/-- .. its blocks lie from W0 to hi, or from n on -/
def Fr2 {α : Type} (T : Ty α) (W0 : World) (hi n : Nat) (W : World) (cs : List Value) (x : α) : Prop := ∃ S, T.O W cs x S ∧ S.Nodup ∧ ∀ b ∈ S, (W0.heap.size ≤ b ∧ b < hi) ∨ n ≤ b
theorem Fr2.fresh {α : Type} {T : Ty α} {w w1 : World} {hi n : Nat} {cs : List Value} {x : α} (h : Fr2 T w hi n w1 cs x) (hn : w.heap.size ≤ n) : Fresh T w w1 cs x := by
  obtain ⟨S, h1, h2, h3⟩ := h
  exact ⟨S, h1, h2, fun b hb => by have := h3 b hb; omega⟩
theorem Fr2.same {α : Type} {T : Ty α} {w w1 w2 : World} {hi n : Nat} {cs : List Value} {x : α} (h : Fr2 T w hi n w1 cs x) (hs : Same w.heap.size hi w1 w2) (ht : Same n w1.heap.size w1 w2) : Fr2 T w hi n w2 cs x := by
  obtain ⟨S, h1, h2, h3⟩ := h
  refine ⟨S, T.keepO h1 (fun k hk => ?_), h2, h3⟩
  rcases h3 k hk with h | h
  · exact hs k h.1 h.2
  · exact ht k h (T.ltO h1 k hk)
theorem Fr2.fre {α : Type} {T : Ty α} {w w1 : World} {hi n : Nat} {cs : List Value} {x : α} (h : Fr2 T w hi n w1 cs x) (hn : w.heap.size ≤ n) : Fre T w w1.heap.size w1 cs x := (h.fresh hn).fre
/-- what a function hands back that makes a new list -/
def RetSl {α : Type} (T : Ty α) (e : TypeId) (xs : List α) (w : World) (r : Ending) (w' : World) : Prop := ∃ A c, r = .returned (.slice A xs.length c) ∧ Fresh (T.sl e) w w' [.slice A xs.length c] xs ∧ Gro w w'
theorem own_made {α : Type} {T : Ty α} {e : TypeId} {w : World} {g : Nat} {cur : Array Value} {xs : List α} {S : List Nat} (hg : w.heap[g]? = some (.cells cur e (0, 0))) (hr : Rows T w cur.toList xs S) (hm : xs.length ≤ 9223372036854775807) :
    (T.sl e).O w [.slice (some ⟨g, 0, none⟩) xs.length xs.length] xs (g :: S) := by
  have hl := hr.len
  rw [Array.length_toList] at hl
  refine ⟨_, _, cur.toList, S, rfl, ⟨by rw [Array.length_toList]; exact hl, .inr ⟨g, xs.length, cur, rfl, Nat.zero_le _, hg, Nat.le_refl _, by simpa [maxLen] using hm, hl, ?_⟩⟩, hr, rfl⟩
  rw [List.take_of_length_le]
  rw [Array.length_toList]
  omega
theorem run_make_rowN {P : Program} (t e : TypeId) (i : TypeInfo) (z : Value) (ht : P.underlying t = some (.slice e)) (hi : P.info? e = some i) (hz : i.zero = some z)
    (kl kc : IntKind) (n c : Nat) (hnc : n ≤ c) (hbytes : i.bytes * c ≤ 281474976710656) (h63 : c ≤ 9223372036854775807) (w : World) :
    (Instr.makeSlice t (.int kl (n : Int)) (.int kc (c : Int))).run P w = .ok (.slice (some ⟨w.heap.size, 0, none⟩) n c) (w.alloc (.cells (madeCells z.cells (c * i.size)) e)) := by
  have hb : (i.bytes : Int) * (c : Int) ≤ 281474976710656 := by
    have h : ((i.bytes * c : Nat) : Int) ≤ 281474976710656 := by omega
    rwa [Int.natCast_mul] at h
  have hr := run_make (P := P) w t e i z ht hi hz kl kc n c (by omega) (by omega) hb (by omega)
  simp only [Int.toNat_natCast] at hr
  exact hr
theorem madeCells_size (z : Array Value) (n : Nat) : (madeCells z n).size = n := by simp [madeCells]
theorem toList_inj' {x y : ByteArray} : x.toList = y.toList ↔ x = y := by
  rw [ByteArray.toList_eq, ByteArray.toList_eq]
  constructor
  · intro h
    cases x
    cases y
    simpa using h
  · rintro rfl
    rfl
theorem str_eqb (x y : ByteArray) : (x.toList == y.toList) = decide (x = y) := by
  rw [Bool.eq_iff_iff]
  simp only [beq_iff_eq, toList_inj', decide_eq_true_eq]
theorem keepOnly {α : Type} (T : Ty α) {w0 a b : World} {cs : List Value} {x : α} {S S' : List Nat} (h : T.O w0 cs x S) (hs : OnlyS S' a b) (hg : Gro w0 a) (hd : ∀ k ∈ S, k ∉ S') : T.O b cs x S :=
  T.keepO (T.groO h hg) fun k hk => hs.block k (T.ltO (T.groO h hg) k hk) (hd k hk)
theorem nd2 {A B : List Nat} (h : (A ++ B).Nodup) : A.Nodup ∧ B.Nodup ∧ (∀ k ∈ A, k ∉ B) ∧ (∀ k ∈ B, k ∉ A) := by
  rw [List.nodup_append] at h
  exact ⟨h.1, h.2.1, fun k ha hb => h.2.2 k ha k hb rfl, fun k hb ha => h.2.2 k ha k hb rfl⟩
theorem nd3 {A B C : List Nat} (h : (A ++ B ++ C).Nodup) : A.Nodup ∧ B.Nodup ∧ C.Nodup ∧ (∀ k ∈ A, k ∉ B) ∧ (∀ k ∈ A, k ∉ C) ∧ (∀ k ∈ B, k ∉ A) ∧ (∀ k ∈ B, k ∉ C) ∧ (∀ k ∈ C, k ∉ A) ∧ (∀ k ∈ C, k ∉ B) := by
  obtain ⟨h1, h2, h3, h4⟩ := nd2 h
  obtain ⟨a1, a2, a3, a4⟩ := nd2 h1
  exact ⟨a1, a2, h2, a3, fun k ha => h3 k (List.mem_append_left _ ha), a4, fun k hb => h3 k (List.mem_append_right _ hb), fun k hc ha => h4 k hc (List.mem_append_left _ ha), fun k hc hb => h4 k hc (List.mem_append_right _ hb)⟩
end Go.Proofs.Ytbhobjepjaeffaa
namespace Go.Proofs.Ytbhobjepjaeffaa
open Go.RowKit Go.WideShapes Go.ChangeShapes
/-- type number t reads as T -/
def Opens (P : Program) (t : TypeId) {α : Type} (T : Ty α) : Prop :=
  ∀ (H : Type) (enc : TypeId × Value → H) (W : World) (spare : Nat → Bool) (held : Bool) (fuel : Nat) (cs : List Value) (x : DataW H × List MemPlace),
    DataW.trod enc P W 0 spare held fuel t cs = some x → ∃ a, T.R W W.heap.size cs a
theorem wf_bounds {x : Int} (h : (Lit.int .i64 x).wf = true) : -9223372036854775808 ≤ x ∧ x ≤ 9223372036854775807 := by
  simp [Lit.wf, IntKind.min, IntKind.max, IntKind.signed, IntKind.bits] at h
  exact h
section
variable {P : Program} {t : TypeId}
theorem opens_int (ht : P.underlying t = some (.int .i64)) : Opens P t intT := by
  intro H enc W spare held fuel cs x h
  obtain ⟨n, rfl, _, hw⟩ := DataW.trod_int ht h
  exact ⟨n, rfl, (wf_bounds hw).1, (wf_bounds hw).2⟩
theorem opens_str (ht : P.underlying t = some .string) : Opens P t strT := by
  intro H enc W spare held fuel cs x h
  obtain ⟨s, rfl, _, hs⟩ := DataW.trod_string ht h
  exact ⟨s, rfl, by simpa [maxLen] using hs⟩
theorem opens_via {α β : Type} {T : Ty α} (f : β → α) (g : α → β) (h : ∀ a, f (g a) = a) (ho : Opens P t T) : Opens P t (T.via f) := by
  intro H enc W spare held fuel cs x hx
  obtain ⟨a, ha⟩ := ho _ _ _ _ _ _ _ _ hx
  exact ⟨g a, by show T.R _ _ _ (f (g a)); rw [h]; exact ha⟩
theorem opens_sl {α : Type} {T : Ty α} {e e' : TypeId} (ht : P.underlying t = some (.slice e)) (hs : P.cellsOf e = T.size) (h0 : 0 < T.size) (he : Opens P e T) : Opens P t (T.sl e') := by
  intro H enc W spare held fuel cs x h
  rcases Go.Deep.open_slice ht h with ⟨rfl, _⟩ | ⟨a, len, cap, m, n, D, Pl, rfl, _, hl, hc, hm, _, hi⟩
  · exact ⟨[], none, 0, rfl, Nat.le_refl _, Nat.zero_le _, fun _ => rfl, fun hp => by simp at hp⟩
  · have hlm : len ≤ m := by rw [hm]; split <;> omega
    have hel : ∀ n', n' ≤ len → ∃ xs : List α, xs.length = n' ∧ ∀ i y, xs[i]? = some y → ∃ ec, T.R W W.heap.size ec y ∧ ∀ (j : Nat) (u : Value), ec[j]? = some u → W.cell? ((a.add (i * T.size)).add j) = some u := by
      intro n'
      induction n' with
      | zero => exact fun _ => ⟨[], rfl, fun i y hy => by simp at hy⟩
      | succ n' ih =>
        intro hn
        obtain ⟨xs, hx1, hx2⟩ := ih (by omega)
        obtain ⟨ec, hcl, htr⟩ := hi n' (by omega)
        obtain ⟨y, hy⟩ := he _ _ _ _ _ _ _ _ htr
        refine ⟨xs ++ [y], by simp [hx1], fun i z hz => ?_⟩
        rw [List.getElem?_append] at hz
        split at hz
        · exact hx2 i z hz
        · rename_i hnl
          have hil := (List.getElem?_eq_some_iff.1 hz).1
          simp at hil
          have hie : i = n' := by omega
          subst hie
          rw [hx1, Nat.sub_self] at hz
          simp at hz
          subst hz
          refine ⟨ec, hy, fun j u hu => ?_⟩
          obtain ⟨_, hlen, hat⟩ := World.cells?_some hcl
          rw [hs] at hat hlen
          rw [hat j (by have := (List.getElem?_eq_some_iff.1 hu).1; omega), hu]
    obtain ⟨xs, hx1, hx2⟩ := hel len (Nat.le_refl _)
    subst hx1
    refine ⟨xs, some a, cap, rfl, hl, by simpa [maxLen] using hc, fun h => by simp at h, fun hp => ?_⟩
    obtain ⟨ec, hR, hcell⟩ := hx2 0 xs[0] (List.getElem?_eq_getElem hp)
    have hel0 : 0 < ec.length := by rw [T.lenR hR]; exact h0
    have h00 := hcell 0 ec[0] (List.getElem?_eq_getElem hel0)
    obtain ⟨g, off, spot⟩ := a
    have h01 : W.cell? ⟨g, off, spot⟩ = some ec[0] := by simpa [Addr.add] using h00
    have hspot : spot = none := World.cell?_spot h01
    subst hspot
    have hlt := World.block_lt_of_cell? W _ h01
    refine ⟨g, off, rfl, hlt, fun i y hy => ?_⟩
    obtain ⟨ec', hR', hcell'⟩ := hx2 i y hy
    refine ⟨ec', hR', fun j u hu => ?_⟩
    have := hcell' j u hu
    rw [Addr.add_lit, Addr.add_lit] at this
    exact this
/-- fields from offset o on -/
def OpF (P : Program) (fs : List Field) (o : Nat) {α : Type} (T : Ty α) : Prop :=
  ∀ (H : Type) (enc : TypeId × Value → H) (W : World) (spare : Nat → Bool) (held : Bool) (fuel : Nat) (cs : List Value), cs.length = o + T.size →
    (∀ f ∈ fs, ∃ y, DataW.trod enc P W 0 spare held fuel f.type ((cs.drop f.offset).take (P.cellsOf f.type)) = some y) → ∃ a, T.R W W.heap.size (cs.drop o) a
theorem opF_one {f : Field} {o : Nat} {α : Type} {T : Ty α} (ho : f.offset = o) (hs : P.cellsOf f.type = T.size) (h : Opens P f.type T) : OpF P [f] o T := by
  intro H enc W spare held fuel cs hl hf
  obtain ⟨y, hy⟩ := hf f (by simp)
  rw [ho, hs, List.take_of_length_le (by simp; omega)] at hy
  exact h _ _ _ _ _ _ _ _ hy
theorem opF_cons {f : Field} {fs : List Field} {o : Nat} {α β : Type} {T : Ty α} {U : Ty β} (ho : f.offset = o) (hs : P.cellsOf f.type = T.size) (h : Opens P f.type T) (hr : OpF P fs (o + T.size) U) : OpF P (f :: fs) o (T.prod U) := by
  intro H enc W spare held fuel cs hl hf
  obtain ⟨y, hy⟩ := hf f (by simp)
  rw [ho, hs] at hy
  obtain ⟨a, ha⟩ := h _ _ _ _ _ _ _ _ hy
  obtain ⟨b, hb⟩ := hr _ enc W spare held fuel cs (by rw [hl]; simp [Ty.prod]; omega) (fun g hg => hf g (by simp [hg]))
  refine ⟨(a, b), (cs.drop o).take T.size, cs.drop (o + T.size), ?_, ha, hb⟩
  rw [← List.drop_drop]
  exact (List.take_append_drop _ _).symm
theorem opens_struct {α : Type} {T : Ty α} {fs : List Field} (ht : P.underlying t = some (.struct fs.toArray)) (hs : P.cellsOf t = T.size) (h : OpF P fs 0 T) : Opens P t T := by
  intro H enc W spare held fuel cs x hx
  obtain ⟨xs, n, _, _, hlen, hxl, hf⟩ := DataW.trod_struct ht hx
  obtain ⟨a, ha⟩ := h _ enc W spare held n cs (by rw [hlen, hs]; omega) (fun f hm => by
    obtain ⟨i, hi, he⟩ := List.getElem_of_mem hm
    have h1 := hf i f (by simp [List.getElem?_eq_getElem hi, he])
    have hi' : i < xs.length := by rw [hxl]; simpa using hi
    exact ⟨_, h1.trans (List.getElem?_eq_getElem hi')⟩)
  exact ⟨a, by simpa using ha⟩
/-- an argument of the law -/
theorem arg_open {H : Type} {enc : TypeId × Value → H} {W : World} {spare : Nat → Bool} {held : Bool} {v : Value} {d : DataW H} {p : List MemPlace} {α : Type} {T : Ty α} (ho : Opens P t T) (h : DataW.Trod enc P W 0 spare held t v d p) : ∃ a, T.R W W.heap.size v.cells.toList a := by
  obtain ⟨fuel, hf⟩ := h
  exact ho _ _ _ _ _ _ _ _ hf
theorem arg_agg {r : Reach} {b0 : Nat} {W : World} {fs : Array Field} {v : Value} (ht : P.underlying t = some (.struct fs)) (hv : Value.okWide P W r b0 t v) : ∃ cs, v = .agg cs := by
  obtain ⟨cs, h, _⟩ := okWide_struct ht hv
  exact ⟨cs, h⟩
end
end Go.Proofs.Ytbhobjepjaeffaa
namespace Go.Proofs.Ytbhobjepjaeffaa
open Go.RowKit
def btw (x a b : Int) : Bool := decide (a ≤ x) && decide (x ≤ b)
theorem btw_iff {x a b : Int} : btw x a b = true ↔ a ≤ x ∧ x ≤ b := by simp [btw]
theorem btw_mk {x a b : Int} (h1 : a ≤ x) (h2 : x ≤ b) : btw x a b = true := btw_iff.2 ⟨h1, h2⟩
theorem wrap64_small {n : Int} (h1 : -9223372036854775808 ≤ n) (h2 : n ≤ 9223372036854775807) : wrap64 n = n := IntWalk.wrap64_in n ⟨h1, h2⟩
theorem ret_bool {a b : Bool} (h : a = b) : Ending.returned (.bool a) = .returned (.bool b) := by rw [h]
theorem ret_int {a b : Int} (h : a = b) : Ending.returned (.int .i64 a) = .returned (.int .i64 b) := by rw [h]
theorem btw_dec (x a b : Int) (h : a ≤ x) : decide (x ≤ b) = btw x a b := by simp [btw, h]
theorem btw_not (x a b : Int) (h : x < a) : false = btw x a b := by simp [btw]; omega
theorem in_i (x a b : Int) (w : World) : Calls Try.prog 48 #[.int .i64 x, .int .i64 a, .int .i64 b] w fun e w' => e = .returned (.bool (btw x a b)) ∧ w = w' := by
  go_enter Try.func48, Try.ntmps48
  go_wp2
  · go_ret
    exact ⟨ret_bool (btw_dec x a b ‹_›), rfl⟩
  · go_ret
    exact ⟨ret_bool (btw_not x a b ‹_›), rfl⟩
theorem in_s (x a b : Int) (w : World) : Calls Try.prog 44 #[.int .i64 x, .int .i64 a, .int .i64 b] w fun e w' => e = .returned (.bool (btw x a b)) ∧ w = w' := by
  go_enter Try.func44, Try.ntmps44
  go_wp2
  · go_ret
    exact ⟨ret_bool (btw_dec x a b ‹_›), rfl⟩
  · go_ret
    exact ⟨ret_bool (btw_not x a b ‹_›), rfl⟩
theorem quiet_left {P : Program} {f : FuncId} {args : Array Value} {w : World} {n : Nat} {v : Value}
    (h : Calls P f args (w.drewN n) fun e w' => e = .returned v ∧ w.drewN n = w') : Calls P f args (w.drewN n) fun e w'' => e = .returned v ∧ ∃ m, w'' = w.drewN m :=
  h.mono fun _ _ ⟨he, hm⟩ => ⟨he, n, hm.symm⟩
theorem in_iv {x a b : Int} {v : Bool} (h : btw x a b = v) (w : World) (n : Nat) : Calls Try.prog 48 #[.int .i64 x, .int .i64 a, .int .i64 b] (w.drewN n) fun e w'' => e = .returned (.bool v) ∧ ∃ m, w'' = w.drewN m := by
  subst h
  exact quiet_left (in_i _ _ _ _)
end Go.Proofs.Ytbhobjepjaeffaa
namespace Go.Proofs.Ytbhobjepjaeffaa
open Go.RowKit
/-- what is asked of the types of a slice (t) and of its elements (e) -/
structure Elem (P : Program) (t e : TypeId) {α : Type} (T : Ty α) (bytes : Nat) : Prop where
  ht : P.underlying t = some (.slice e)
  info : ∃ i z, P.info? e = some i ∧ i.zero = some z ∧ i.size = T.size ∧ i.bytes = bytes ∧ z.cells.size = T.size
  pos : 0 < T.size
/-- elements without memory of their own -/
def Flat {α : Type} (T : Ty α) : Prop := ∀ {w B cs x}, T.R w B cs x → ∀ w', T.O w' cs x []
theorem flat_int : Flat intT := fun h _ => ⟨h.1, h.2.1, h.2.2, rfl⟩
theorem flat_str : Flat strT := fun h _ => ⟨h.1, h.2, rfl⟩
theorem flat_prod {α β : Type} {T : Ty α} {U : Ty β} (h : Flat T) (k : Flat U) : Flat (T.prod U) := fun ⟨c1, c2, h1, h2, h3⟩ w' => ⟨c1, c2, [], [], h1, rfl, h h2 w', k h3 w'⟩
theorem flat_via {α β : Type} {T : Ty α} (f : β → α) (h : Flat T) : Flat (T.via f) := fun h1 w' => h h1 w'
section
variable {α : Type} {T : Ty α} {e : TypeId}
theorem fresh_nil (W0 W : World) : Fresh (T.sl e) W0 W [.slice none 0 0] [] :=
  ⟨[], ⟨none, 0, [], [], rfl, World.ownsRow_nil W 0 e T.size, ⟨rfl, rfl⟩, rfl⟩, by simp, by simp⟩
theorem fresh_empty {W0 W : World} (hg : Gro W0 W) {g : Nat} (hgW : g = W.heap.size) : Fresh (T.sl e) W0 (W.alloc (.cells #[] e)) [.slice (some ⟨g, 0, none⟩) 0 0] [] := by
  subst hgW
  refine ⟨[W.heap.size], ⟨_, 0, [], [], rfl, ?_, ⟨rfl, rfl⟩, by simp [blockOf]⟩, by simp, fun b hb => ?_⟩
  · exact World.ownsRow_made W #[] 0 (Nat.zero_le _) (Nat.zero_le _) (by simp)
  · simp at hb
    subst hb
    exact hg.size
/-- the rows of a flat list that is read -/
theorem rows_of_flat (hf : Flat T) {w w' : World} {B g off : Nat} : ∀ (xs : List α) (k : Nat), (∀ i x, xs[i]? = some x → ∃ ec, T.R w B ec x ∧ ∀ (j : Nat) (u : Value), ec[j]? = some u → w.cell? ⟨g, off + (k + i) * T.size + j, none⟩ = some u) →
    ∃ cs, Rows T w' cs xs [] ∧ cs.length = xs.length * T.size ∧ ∀ (j : Nat) (u : Value), cs[j]? = some u → w.cell? ⟨g, off + k * T.size + j, none⟩ = some u
  | [], k, _ => ⟨[], ⟨rfl, rfl⟩, by simp, fun j u hu => by simp at hu⟩
  | x :: xs, k, h => by
    obtain ⟨ec, hR, hc⟩ := h 0 x rfl
    obtain ⟨cs, h1, h2, h3⟩ := rows_of_flat hf xs (k + 1) (fun i y hy => by
      obtain ⟨ec', hR', hc'⟩ := h (i + 1) y (by simpa using hy)
      exact ⟨ec', hR', fun j u hu => by have := hc' j u hu; rw [show k + (i + 1) = k + 1 + i from by omega] at this; exact this⟩)
    have hl := T.lenR hR
    refine ⟨ec ++ cs, ⟨ec, cs, [], [], rfl, rfl, hf hR _, h1⟩, by rw [List.length_append, hl, h2, List.length_cons, Nat.add_mul, Nat.one_mul, Nat.add_comm], fun j u hu => ?_⟩
    rw [List.getElem?_append] at hu
    split at hu
    · exact hc j u hu
    · rename_i hj
      have := h3 _ u hu
      rw [Nat.add_mul, Nat.one_mul] at this
      rw [hl] at hj
      rw [hl] at this
      rw [show off + k * T.size + j = off + (k * T.size + T.size) + (j - T.size) from by omega]
      exact this
section
variable {P : Program} {t ty : TypeId} {bytes : Nat}
/-- the run: new cells behind an owned list -/
theorem run_append_fresh (hE : Elem P t e T bytes) {W0 W : World} {hi0 : Nat} {A : Option Addr} {n c : Nat} {xs : List α} (h : Fre (T.sl e) W0 hi0 W [.slice A n c] xs)
    {ad : Addr} {m c' : Nat} {ys : List α} {news : List Value} {Sy : List Nat} (hr : Rows T W news ys Sy) (hm : m = ys.length) (hcell : ∀ j u, news[j]? = some u → W.cell? (ad.add j) = some u)
    (hSy : Sy.Nodup) {m0 : Nat} (hm0 : m0 ≤ W.heap.size) (hSy0 : ∀ b ∈ Sy, W0.heap.size ≤ b ∧ hi0 ≤ b ∧ m0 ≤ b)
    {L : Nat} (hL : L = n + m) (hb : L * bytes ≤ 140737488355328) (h63 : L ≤ 9223372036854775807) :
    ∃ A' c'' W', (Builtin.append_ #[t, t] ty #[.slice A n c, .slice (some ad) m c']).run P W = .ok (.slice A' L c'') W' ∧ (∃ row, W.grownBy W' row ∧ ∀ k, row = some k → W0.heap.size ≤ k ∧ k < hi0) ∧ Fr2 (T.sl e) W0 hi0 m0 W' [.slice A' L c''] (xs ++ ys) := by
  subst hL
  obtain ⟨S, hO, hN, hS01⟩ := h
  have hS0 : ∀ b ∈ S, W0.heap.size ≤ b := fun b hb => (hS01 b hb).1
  have hd : ∀ b ∈ S, b ∉ Sy := fun b hb hm => by have h1 := (hS01 b hb).2; have h2 := (hSy0 b hm).2.1; omega
  obtain ⟨A1, c1, ecs, S', hv, how, hrow, rfl⟩ := hO
  injection hv with hv _
  injection hv with hA hn hc
  subst hA hc
  have hn' : n = xs.length := hn
  obtain ⟨i, z, hi, hz, hsize, hby, hzs⟩ := hE.info
  have hlen : news.length = m * T.size := by rw [hr.len, hm]
  obtain ⟨v', W', hrun, hown, hgrown, _, hat⟩ := run_append_own_at (P := P) W 0 t ty e i z T.size bytes hE.ht hi hz hsize hby hzs hE.pos (.slice A xs.length c) xs.length ecs how ad m c' news hlen hcell hr.one
    (by rw [← hn']; simpa [maxLen] using h63) (by rw [← hn']; exact hb) (Nat.zero_le _)
  subst hn'
  have hG : ∃ row, W.grownBy W' row ∧ ∀ k, row = some k → W0.heap.size ≤ k ∧ k < hi0 := ⟨_, hgrown, fun k hk => by
    cases A with
    | none => simp [Value.ownBlock] at hk
    | some a =>
      simp [Value.ownBlock] at hk
      exact hS01 k (by simp [blockOf, hk])⟩
  -- the elements' own blocks have not turned
  have hkeep : ∀ k, k < W.heap.size → (∀ b ∈ blockOf A, k ≠ b) → W'.heap[k]? = W.heap[k]? := fun k hk hne => hgrown.block k hk (by
    cases A with
    | none => simp [Value.ownBlock]
    | some a => simpa [Value.ownBlock, blockOf] using hne)
  rw [List.nodup_append] at hN
  obtain ⟨hN1, hN2, hN3⟩ := hN
  have hrow' : Rows T W' ecs xs S' := hrow.keep (fun k hk => hkeep k (hrow.lt k hk) (fun b hb => (hN3 b hb k hk).symm))
  have hr' : Rows T W' news ys Sy := hr.keep (fun k hk => hkeep k (hr.lt k hk) (fun b hb heq => hd b (List.mem_append_left _ hb) (heq ▸ hk)))
  have hshape : ∃ A' c'', v' = .slice A' (xs.length + m) c'' ∧ ∀ b ∈ blockOf A', b ∈ blockOf A ∨ b = W.heap.size := by
    rcases hown.2 with ⟨rfl, h0⟩ | ⟨g, cap, cur, rfl, _⟩
    · exact ⟨none, 0, by rw [h0], by simp [blockOf]⟩
    · refine ⟨_, cap, rfl, fun b hb => ?_⟩
      simp [blockOf] at hb
      subst hb
      rcases hat with h | h
      · left
        cases A with
        | none => simp [Value.ownBlock] at h
        | some a => simp [Value.ownBlock] at h; simp [blockOf, h]
      · right
        simpa [Value.ownBlock] using h
  obtain ⟨A', c'', rfl, hA'⟩ := hshape
  refine ⟨A', c'', W', hrun, hG, blockOf A' ++ (S' ++ Sy), ⟨A', c'', ecs ++ news, S' ++ Sy, by rw [List.length_append, hm], by rw [List.length_append, ← hm]; exact hown, hrow'.app hr', rfl⟩, ?_, ?_⟩
  · rw [List.nodup_append]
    refine ⟨by cases A' <;> simp [blockOf], List.nodup_append.2 ⟨hN2, hSy, fun a ha b hb heq => hd a (List.mem_append_right _ ha) (heq ▸ hb)⟩, fun a ha b hb heq => ?_⟩
    subst heq
    rcases hA' a ha with h | h
    · rcases List.mem_append.1 hb with hb | hb
      · exact hN3 a h a hb rfl
      · exact hd a (List.mem_append_left _ h) hb
    · subst h
      rcases List.mem_append.1 hb with hb | hb
      · exact absurd (hrow.lt _ hb) (Nat.lt_irrefl _)
      · exact absurd (hr.lt _ hb) (Nat.lt_irrefl _)
  · intro b hb
    rcases List.mem_append.1 hb with hb | hb
    · rcases hA' b hb with h | h
      · exact .inl (hS01 b (List.mem_append_left _ h))
      · rw [h]; exact .inr hm0
    · rcases List.mem_append.1 hb with hb | hb
      · exact .inl (hS01 b (List.mem_append_right _ hb))
      · exact .inr (hSy0 b hb).2.2
/-- .. nothing to append -/
theorem run_append_fresh_nil (hE : Elem P t e T bytes) {W0 W : World} {A : Option Addr} {n c : Nat} {xs : List α} (h : Fresh (T.sl e) W0 W [.slice A n c] xs) (c' : Nat) :
    (Builtin.append_ #[t, t] ty #[.slice A n c, .slice none 0 c']).run P W = .ok (.slice A n c) W := by
  obtain ⟨S, hO, hN, hS0⟩ := h
  obtain ⟨A1, c1, ecs, S', hv, how, hrow, rfl⟩ := hO
  injection hv with hv _
  injection hv with hA hn hc
  subst hA hc hn
  obtain ⟨i, z, hi, hz, hsize, hby, hzs⟩ := hE.info
  rcases how.2 with ⟨hv, h0⟩ | ⟨g, cap, cur, hv, _, _, hnc, _⟩
  · rw [hv]
    simp [Builtin.append_, run_underlying hE.ht, sizeOf, typeInfo, hi, Builtin.lenOf, Builtin.firstCells]
  · rw [hv]
    simp [Builtin.append_, run_underlying hE.ht, sizeOf, typeInfo, hi, Builtin.lenOf, Builtin.firstCells, hnc, storeCells]
/-- a flat list that is read goes behind an owned list -/
theorem run_append_flat (hE : Elem P t e T bytes) (hf : Flat T) {W0 W : World} {hi0 m0 : Nat} (hm0 : m0 ≤ W.heap.size) {A : Option Addr} {n c : Nat} {xs : List α} (h : Fre (T.sl e) W0 hi0 W [.slice A n c] xs)
    {B : Nat} {e' : TypeId} {A2 : Option Addr} {m c2 : Nat} {ys : List α} (hy : (T.sl e').R W B [.slice A2 m c2] ys)
    {L : Nat} (hL : L = n + m) (hb : L * bytes ≤ 140737488355328) (h63 : L ≤ 9223372036854775807) :
    ∃ A' c'' W', (Builtin.append_ #[t, t] ty #[.slice A n c, .slice A2 m c2]).run P W = .ok (.slice A' L c'') W' ∧ (∃ row, W.grownBy W' row ∧ ∀ k, row = some k → W0.heap.size ≤ k ∧ k < hi0) ∧ Fr2 (T.sl e) W0 hi0 m0 W' [.slice A' L c''] (xs ++ ys) := by
  obtain ⟨A3, c3, hv, h1, h2, h3, h4⟩ := hy
  injection hv with hv _
  injection hv with hA hn hc
  subst hA hn hc
  rcases Nat.eq_zero_or_pos ys.length with h0 | h0
  · have hys : ys = [] := List.eq_nil_of_length_eq_zero h0
    subst hys
    subst hL
    cases A2 with
    | none => exact ⟨A, c, W, run_append_fresh_nil hE h.fresh _, ⟨none, World.grownBy.refl W none, fun k hk => by simp at hk⟩, by
        obtain ⟨S, h1, h2, h3⟩ := h
        exact ⟨S, by simpa using h1, h2, fun b hb => .inl (h3 b hb)⟩⟩
    | some ad =>
      exact run_append_fresh hE h (ad := ad) (m := 0) (news := []) (ys := []) (Sy := []) ⟨rfl, rfl⟩ rfl (fun j u hu => by simp at hu) (by simp) hm0 (by simp) rfl hb h63
  · obtain ⟨g, off, rfl, hgB, h5⟩ := h4 h0
    obtain ⟨cs, hr, hl, hc⟩ := rows_of_flat (w' := W) hf (g := g) (off := off) ys 0 (fun i x hx => by
      obtain ⟨ec, hR, hcc⟩ := h5 i x hx
      exact ⟨ec, hR, fun j u hu => by rw [Nat.zero_add]; exact hcc j u hu⟩)
    exact run_append_fresh hE h (ad := ⟨g, off, none⟩) hr rfl (fun j u hu => by rw [Addr.add_lit]; simpa using hc j u hu) (by simp) hm0 (by simp) hL hb h63
end
section
variable {P : Program} {t : TypeId} {bytes : Nat} {ops : Array Oper} {rest : List Oper} {o : Oper} {a : Act} {Q : Exit → Act → World → Prop} {K : Act → World → Prop}
theorem wp_of_run_append {A : Option Addr} {n c : Nat} {v2 v' : Value} {W W' : World} (s x : Operand) (ho : o.op = .call { callee := .builtin .append, args := #[s, x], argTypes := #[t, t] }) (hs : a.eval s = .slice A n c) (hx : a.eval x = v2)
    (hrun : (Builtin.append_ #[t, t] o.type #[.slice A n c, v2]).run P W = .ok v' W') (h : K (a.put o.dst v') W') : o.wp P a W K Q := by
  unfold Oper.wp execOp
  simp only [ho, resolve, invoke, builtin, Sem.run_bind, Sem.run_pure, Result.andThen_ok, List.map_toArray, List.map_cons, List.map_nil, hs, hx, hrun]
  exact h
/-- 'append(own, read...)', flat elements, in the walk -/
theorem wpList_append_flat (hgd : o.guard = none) (s x : Operand) (hE : Elem P t e T bytes) (hf : Flat T) {W0 W : World} {A : Option Addr} {n c : Nat} {xs : List α} (h : Fresh (T.sl e) W0 W [.slice A n c] xs) (hg : Gro W0 W)
    {B : Nat} {e' : TypeId} {A2 : Option Addr} {m c2 : Nat} {ys : List α} (hy : (T.sl e').R W B [.slice A2 m c2] ys)
    (ho : o.op = .call { callee := .builtin .append, args := #[s, x], argTypes := #[t, t] }) (hs : a.eval s = .slice A n c) (hx : a.eval x = .slice A2 m c2)
    {L : Nat} (hL : L = n + m) (hb : L * bytes ≤ 140737488355328) (h63 : L ≤ 9223372036854775807)
    (hK : ∀ A' c'' os d, Fresh (T.sl e) W0 (gro W0 os d) [.slice A' L c''] (xs ++ ys) → wpList P ops Q rest (a.put o.dst (.slice A' L c'')) (gro W0 os d)) : wpList P ops Q (o :: rest) a W :=
  wpList_plain hgd fun K hKK => by
    obtain ⟨A', c'', W', hrun, ⟨row, hgr, hrow⟩, hF⟩ := run_append_flat (P := P) (ty := o.type) hE hf hg.size h.fre hy hL hb h63
    obtain ⟨os, d, rfl⟩ := hg.grown hgr (fun k hk => (hrow k hk).1)
    exact wp_of_run_append s x ho hs hx hrun (hKK _ _ (hK A' c'' os d (hF.fresh (Nat.le_refl _))))
end
section
variable {P : Program} {t : TypeId} {bytes : Nat} {ops : Array Oper} {rest : List Oper} {o : Oper} {a : Act} {Q : Exit → Act → World → Prop}
theorem Fr2.up {α : Type} {T : Ty α} {w w1 w2 : World} {hi n : Nat} {cs : List Value} {x : α} (h : Fr2 T w hi n w1 cs x) (hg : Gro w1 w2) : Fr2 T w hi n w2 cs x := by
  obtain ⟨S, h1, h2, h3⟩ := h
  exact ⟨S, T.groO h1 hg, h2, h3⟩
theorem Fr2.read {α : Type} {T : Ty α} {w w1 : World} {hi n : Nat} {cs : List Value} {x : α} (h : Fr2 T w hi n w1 cs x) : T.R w1 w1.heap.size cs x := by
  obtain ⟨S, h1, _, _⟩ := h
  exact T.read h1
end
end
end Go.Proofs.Ytbhobjepjaeffaa
namespace Go.Proofs.Ytbhobjepjaeffaa
open Go.RowKit
def byteT : Ty UInt8 where
  size := 1
  R := fun _ _ cs x => cs = [.int .u8 (x.toNat : Int)]
  O := fun _ cs x S => cs = [.int .u8 (x.toNat : Int)] ∧ S = []
  lenR := by rintro _ _ _ _ rfl; rfl
  lenO := by rintro _ _ _ _ ⟨rfl, _⟩; rfl
  oneO := by rintro _ _ _ _ ⟨rfl, _⟩ u hu; simp at hu; subst hu; rfl
  oneR := by rintro _ _ _ _ rfl u hu; simp at hu; subst hu; rfl
  keepR := by rintro _ _ _ _ _ _ h _ _; exact h
  keepO := by rintro _ _ _ _ _ h _; exact h
  ltO := by rintro _ _ _ _ ⟨_, rfl⟩ k hk; simp at hk
  OR := by rintro _ _ _ _ _ ⟨h1, _⟩ _; exact h1
end Go.Proofs.Ytbhobjepjaeffaa
namespace Go.Proofs.Ytbhobjepjaeffaa
section
variable {α : Type}
def cntL (cnt : α → Nat) (xs : List α) : Nat := (xs.map cnt).sum
def mkL (mk : α → Int → α) (cnt : α → Nat) : List α → Int → List α
  | [], _ => []
  | x :: xs, k => mk x k :: mkL mk cnt xs (k + (cnt x : Nat))
variable {mk : α → Int → α} {cnt : α → Nat}
theorem cntL_cons (x : α) (xs : List α) : cntL cnt (x :: xs) = cnt x + cntL cnt xs := by simp [cntL]
theorem cntL_snoc {xs : List α} {i : Nat} {x : α} (h : xs[i]? = some x) : cntL cnt (xs.take (i + 1)) = cntL cnt (xs.take i) + cnt x := by
  rw [take_snoc h]; simp [cntL]
theorem cntL_take_le (xs : List α) (i : Nat) : cntL cnt (xs.take i) ≤ cntL cnt xs := by
  induction xs generalizing i with
  | nil => simp [cntL]
  | cons x xs ih =>
    cases i with
    | zero => simp [cntL]
    | succ i => rw [List.take_succ_cons, cntL_cons, cntL_cons]; have := ih i; omega
theorem mkL_length (xs : List α) (k : Int) : (mkL mk cnt xs k).length = xs.length := by
  induction xs generalizing k with
  | nil => rfl
  | cons x xs ih => simp [mkL, ih]
theorem mkL_get {xs : List α} {i : Nat} {x : α} (h : xs[i]? = some x) (k : Int) : (mkL mk cnt xs k)[i]? = some (mk x (k + (cntL cnt (xs.take i) : Nat))) := by
  induction xs generalizing i k with
  | nil => simp at h
  | cons y ys ih =>
    cases i with
    | zero => simp at h; subst h; simp [mkL, cntL]
    | succ i =>
      rw [List.getElem?_cons_succ] at h
      simp only [mkL, List.getElem?_cons_succ, List.take_succ_cons, cntL_cons]
      rw [ih h]
      congr 2
      omega
/-- the first i are marked -/
def mkTo (mk : α → Int → α) (cnt : α → Nat) (xs : List α) (k : Int) (i : Nat) : List α := (mkL mk cnt xs k).take i ++ xs.drop i
theorem mkTo_zero (xs : List α) (k : Int) : mkTo mk cnt xs k 0 = xs := by simp [mkTo]
theorem mkTo_all (xs : List α) (k : Int) : mkTo mk cnt xs k xs.length = mkL mk cnt xs k := by
  unfold mkTo
  rw [List.take_of_length_le (by rw [mkL_length]; omega), List.drop_length, List.append_nil]
theorem mkTo_get {xs : List α} {i : Nat} {x : α} (h : xs[i]? = some x) (k : Int) : (mkTo mk cnt xs k i)[i]? = some x := by
  have hi := (List.getElem?_eq_some_iff.1 h).1
  unfold mkTo
  rw [List.getElem?_append_right (by rw [List.length_take, mkL_length]; omega), List.length_take, mkL_length, Nat.min_eq_left (by omega), Nat.sub_self, List.getElem?_drop, Nat.add_zero, h]
theorem mkTo_set {xs : List α} {i : Nat} {x : α} (h : xs[i]? = some x) (k : Int) : (mkTo mk cnt xs k i).set i (mk x (k + (cntL cnt (xs.take i) : Nat))) = mkTo mk cnt xs k (i + 1) := by
  have hi := (List.getElem?_eq_some_iff.1 h).1
  have hm := mkL_get (mk := mk) (cnt := cnt) h k
  unfold mkTo
  rw [take_snoc hm, List.set_append_right _ _ (by rw [List.length_take, mkL_length]; omega), List.length_take, mkL_length, Nat.min_eq_left (by omega), Nat.sub_self]
  have e : xs.drop i = x :: xs.drop (i + 1) := by
    rw [List.drop_eq_getElem_cons hi, (List.getElem?_eq_some_iff.1 h).2]
  rw [e, List.set_cons_zero, List.append_assoc]
  rfl
end
end Go.Proofs.Ytbhobjepjaeffaa
namespace Go.Proofs.Ytbhobjepjaeffaa
open Go.RowKit
theorem eqIntS_l {xs ys : List Int} {w : World} {B B' : Nat} {v u : Value} (hx : (intT.sl 3).R w B [v] xs) (hy : (intT.sl 3).R w B' [u] ys) :
    Calls Try.prog 39 #[v, u] w fun e w' => e = .returned (.bool (decide (xs = ys))) ∧ Gro w w' := by
  obtain ⟨A, c, rfl, h1, h2⟩ := sl_at hx
  obtain ⟨A', c', rfl, k1, k2⟩ := sl_at hy
  by_cases hl : xs.length = ys.length
  · have hne : ((xs.length : Int) != (ys.length : Int)) = false := by simp [hl]
    have HL := Lib.hid hl
    clear hl
    go_enter Try.func39, Try.ntmps39
    go_wp2_with (fail)
    go_loopw [5] (fun i wr => ∃ k n : Nat, k ≤ xs.length ∧ i = .int .i64 k ∧ wr = w.drewN n ∧ xs.take k = ys.take k) (fun i _ => xs.length - (intOf i).toNat)
    case atStart => exact ⟨0, 0, Nat.zero_le _, rfl, rfl, by simp⟩
    case round =>
      obtain ⟨k, n, hk, rfl, rfl, htk⟩ := hrel
      have HT := Lib.hid htk
      clear htk
      by_cases hlt : k < xs.length
      · have hlt2 : k < ys.length := by rw [← HL.out]; exact hlt
        obtain ⟨g, off, x, rfl, hxk, hcx, bx1, bx2⟩ := ints_at hx hlt
        obtain ⟨g', off', y, rfl, hyk, hcy, by1, by2⟩ := ints_at hy hlt2
        have HX := Lib.hid hxk
        have HY := Lib.hid hyk
        clear hxk hyk hx hy
        by_cases hxy : x = y
        · subst hxy
          go_wp2_with (fail)
          go_quiet (fail)
          go_wp2
          go_roundw
          case rel => exact ⟨k + 1, _, by omega, by go_num, rfl, by rw [take_snoc HX.out, take_snoc HY.out, HT.out]⟩
          case measure => simp [intOf]; omega
        · have hb : (x != y) = true := by simp [hxy]
          go_wp2_with (fail)
          go_quiet (fail)
          go_wp2
          go_ret
          refine ⟨ret_bool ?_, ?_⟩
          · symm
            simp only [decide_eq_false_iff_not]
            rintro rfl
            have := HX.out.symm.trans HY.out
            simp_all
          · exact gro_of_drewN _ _
      · go_wp2
        go_ret
        refine ⟨ret_bool ?_, ?_⟩
        · have : k = xs.length := by omega
          subst this
          have h1 := HT.out
          rw [HL.out] at h1
          simp only [List.take_length] at h1
          rw [← HL.out] at h1
          simp at h1
          simp [h1]
        · exact gro_of_drewN _ _
  · have hne : ((xs.length : Int) != (ys.length : Int)) = true := by simp; omega
    go_enter Try.func39, Try.ntmps39
    go_wp2
    go_ret
    exact ⟨ret_bool (by symm; simp only [decide_eq_false_iff_not]; rintro rfl; exact hl rfl), Gro.refl _⟩
theorem run_byte_str (W : World) (x : Int) : (convert 152 9 (.slice (some ⟨W.heap.size, 0, none⟩) 1 1)).run Try.prog (W.alloc (.cells #[.int .u8 x] 5)) = .ok (.string ⟨#[UInt8.ofNat x.toNat]⟩) (W.alloc (.cells #[.int .u8 x] 5)) := by
  have h := run_convert_bytes_arg (P := Try.prog) (W.alloc (.cells #[.int .u8 x] 5)) 152 5 Try.underlying152 Try.underlying5 W.heap.size 0 1 1 [x] rfl (by
    intro i hi
    have : i = 0 := by omega
    subst this
    rw [World.cell?_alloc_at _ _ _ _ rfl]
    rfl) 9 Try.underlying9
  rw [h]
  rfl
def tdig : Nat → Nat → List UInt8 → List UInt8
  | 0, _, acc => acc
  | f + 1, n, acc => if n = 0 then acc else tdig f (n / 10) ((48 + UInt8.ofNat (n % 10)) :: acc)
theorem tdig_zero (f : Nat) (acc : List UInt8) : tdig f 0 acc = acc := by cases f <;> simp [tdig]
theorem tdig_pos {f m : Nat} (acc : List UInt8) (h : 0 < m) (hf : m ≤ f) : tdig f m acc = tdig (f - 1) (m / 10) ((48 + UInt8.ofNat (m % 10)) :: acc) := by
  obtain ⟨f', rfl⟩ : ∃ f', f = f' + 1 := ⟨f - 1, by omega⟩
  rw [tdig, if_neg (by omega)]
  rfl
theorem bytes_app (a b : List UInt8) : (⟨a.toArray⟩ : ByteArray) ++ ⟨b.toArray⟩ = ⟨(a ++ b).toArray⟩ := by
  apply toList_inj'.1
  rw [ByteArray.toList_eq, ByteArray.toList_eq]
  simp
def markTx (k : Int) : ByteArray := ⟨(109 :: tdig k.toNat k.toNat []).toArray⟩
theorem ret_str {a b : ByteArray} (h : a = b) : Ending.returned (.string a) = .returned (.string b) := by rw [h]
theorem val_str {a b : ByteArray} (h : a = b) : Value.string a = .string b := by rw [h]
theorem markText_l (k : Int) (h0 : 0 < k) (h1 : k ≤ 1099511627776) (w : World) : Calls Try.prog 92 #[.int .i64 k] w fun e w' => e = .returned (.string (markTx k)) ∧ Gro w w' := by
  obtain ⟨n, rfl⟩ := Int.eq_ofNat_of_zero_le (Int.le_of_lt h0)
  have kc := run_byte_str
  go_enter Try.func92, Try.ntmps92
  go_wp2_with (fail)
  go_loopw [0, 3] (fun a b wr => ∃ (m f : Nat) (acc : List UInt8), m + acc.length ≤ n ∧ m ≤ f ∧ a = .int .i64 m ∧ b = .string ⟨acc.toArray⟩ ∧ tdig f m acc = tdig n n [] ∧ Gro w wr) (fun a _ _ => (intOf a).toNat)
  case atStart => exact ⟨n, n, [], by simp, Nat.le_refl _, rfl, rfl, rfl, Gro.refl _⟩
  case round =>
    obtain ⟨m, f, acc, hm, hf, rfl, rfl, ht, hg⟩ := hrel
    have HT := Lib.hid ht
    clear ht
    by_cases h : 0 < m
    · go_wp2
      go_roundw
      case rel => exact ⟨m / 10, f - 1, (48 + UInt8.ofNat (m % 10)) :: acc, by simp; omega, by omega, by go_num, val_str (bytes_app [_] acc), by rw [← HT.out, tdig_pos acc h hf], hg.alloc _⟩
      case measure => simp [intOf]; omega
    · have h' : m = 0 := by omega
      subst h'
      go_wp2
      go_ret
      exact ⟨ret_str (by rw [markTx, Int.toNat_natCast, ← HT.out, tdig_zero]; exact bytes_app [_] acc), hg⟩
/-! ### marks -/
def mkInts (xs : List Int) (k : Int) : List Int := mkL (fun _ k => k) (fun _ => 1) xs k
theorem mkInts_length (xs : List Int) (k : Int) : (mkInts xs k).length = xs.length := mkL_length _ _
theorem cnt_one {α : Type} (xs : List α) : cntL (fun _ => 1) xs = xs.length := by
  induction xs with
  | nil => rfl
  | cons x xs ih => rw [cntL_cons, ih, List.length_cons]; omega
theorem cnt_one_take {α : Type} {xs : List α} {i : Nat} (h : i ≤ xs.length) : cntL (fun _ => 1) (xs.take i) = i := by
  rw [cnt_one, List.length_take]; omega
theorem szLe {α : Type} (f : α → Nat) (xs : List α) (j : Nat) : ((xs.take j).map f).sum ≤ (xs.map f).sum := cntL_take_le (cnt := f) xs j
theorem szSnoc {α : Type} (f : α → Nat) {xs : List α} {j : Nat} {x : α} (h : xs[j]? = some x) : ((xs.take (j + 1)).map f).sum = ((xs.take j).map f).sum + f x := cntL_snoc (cnt := f) h
theorem szAll {α : Type} (f : α → Nat) {xs : List α} {j : Nat} (h : j = xs.length) : ((xs.take j).map f).sum = (xs.map f).sum := by rw [h, List.take_length]
def szRes (left : Int) (n : Nat) : Int := if (n : Int) ≤ left then left - n else -1
def szL {α : Type} (f : α → Nat) (xs : List α) : Nat := xs.length + (xs.map f).sum
theorem szL_len {α : Type} (f : α → Nat) (xs : List α) : xs.length ≤ szL f xs := Nat.le_add_right _ _
theorem szL_elem {α : Type} (f : α → Nat) {xs : List α} {j : Nat} {x : α} (h : xs[j]? = some x) : f x ≤ szL f xs := by
  have h1 := szSnoc f h
  have h2 := szLe f xs (j + 1)
  unfold szL
  omega
theorem cntL_const {α : Type} (N : Nat) (xs : List α) : cntL (fun _ => N) xs = xs.length * N := by
  induction xs with
  | nil => simp [cntL]
  | cons x xs ih => rw [cntL_cons, ih, List.length_cons, Nat.add_mul, Nat.one_mul, Nat.add_comm]
theorem cntL_const_take {α : Type} (N : Nat) {xs : List α} {i : Nat} (h : i ≤ xs.length) : cntL (fun _ => N) (xs.take i) = i * N := by
  rw [cntL_const, List.length_take, Nat.min_eq_left h]
theorem markTx_size (k : Int) (h0 : 0 < k) (h1 : k ≤ 1099511627776) : (markTx k).size ≤ 9223372036854775807 := by
  have key : ∀ (f m : Nat) (acc : List UInt8), (tdig f m acc).length ≤ m + acc.length := by
    intro f
    induction f with
    | zero => intro m acc; simp [tdig]
    | succ f ih =>
      intro m acc
      unfold tdig
      split
      · omega
      · have := ih (m / 10) ((48 + UInt8.ofNat (m % 10)) :: acc)
        simp only [List.length_cons] at this
        omega
  have := key k.toNat k.toNat []
  simp only [List.length_nil, Nat.add_zero] at this
  show (109 :: tdig k.toNat k.toNat []).toArray.size ≤ _
  simp only [List.size_toArray, List.length_cons]
  omega
theorem heldIntS_l {xs : List Int} {w : World} {B : Nat} {v : Value} {k : Int} (hB : B ≤ w.heap.size) (hx : (intT.sl 3).R w B [v] (mkInts xs k)) (h0 : 0 < k) (h1 : k + xs.length ≤ 1099511627776) :
    Calls Try.prog 41 #[v, .int .i64 k] w fun e w' => e = .returned (.int .i64 (k + xs.length)) ∧ Gro w w' := by
  obtain ⟨A, c, rfl, h2, h3⟩ := sl_at hx
  have hlen : (mkInts xs k).length = xs.length := mkL_length _ _
  rw [hlen] at h2 hx ⊢
  have HL := Lib.hid hlen
  clear hlen
  go_enter Try.func41, Try.ntmps41
  go_wp2_with (fail)
  go_loopw [1, 5] (fun a i wr => ∃ (j : Nat), j ≤ xs.length ∧ a = .int .i64 (k + j) ∧ i = .int .i64 j ∧ Gro w wr) (fun _ i _ => xs.length - (intOf i).toNat)
  case atStart => exact ⟨0, Nat.zero_le _, by simp, rfl, Gro.refl _⟩
  case round =>
    obtain ⟨j, hj, rfl, rfl, hg⟩ := hrel
    by_cases hlt : j < xs.length
    · obtain ⟨g, off, x, rfl, hxk, hcx, bx1, bx2⟩ := ints_at (Ty.gro _ hx hg hB) (k := j) (by rw [HL.out]; exact hlt)
      have hxe : x = (k + j) := by
        have := mkL_get (mk := (fun (_ : Int) k => k)) (cnt := fun _ => 1) (List.getElem?_eq_getElem hlt) k
        rw [cnt_one_take (by omega)] at this
        have h := hxk.symm.trans this
        injection h
      clear hxk hx
      subst hxe
      have hgb := World.block_lt_of_cell? _ _ hcx
      simp only at hgb
      go_wp2
      go_roundw
      case rel => exact ⟨j + 1, by omega, by go_num, by go_num, hg⟩
      case measure => simp [intOf]; omega
    · go_wp2
      have : j = xs.length := by omega
      subst this
      go_ret
      exact ⟨rfl, hg⟩
theorem markIntS_l {xs : List Int} {w : World} {A : Option Addr} {n c : Nat} {k : Int} {S : List Nat} (hO : (intT.sl 3).O w [.slice A n c] xs S) (hS : S.Nodup) (h0 : 0 < k) (h1 : k + xs.length ≤ 1099511627776) :
    Calls Try.prog 40 #[.slice A n c, .int .i64 k] w fun e w' => e = .returned (.int .i64 (k + xs.length)) ∧ (intT.sl 3).O w' [.slice A n c] (mkInts xs k) S ∧ OnlyS S w w' := by
  obtain ⟨_, _, hx, h2, h3⟩ := sl_at (Ty.read _ hO)
  injection hx with hA hn hc
  subst hA hn hc
  clear h3
  go_enter Try.func40, Try.ntmps40
  go_wp2_with (fail)
  go_loopw [1, 5] (fun a i wr => ∃ (j : Nat), j ≤ xs.length ∧ a = .int .i64 (k + j) ∧ i = .int .i64 j ∧ (intT.sl 3).O wr [.slice A xs.length c] (mkTo (fun (_ : Int) k => k) (fun _ => 1) xs k j) S ∧ OnlyS S w wr) (fun _ i _ => xs.length - (intOf i).toNat)
  case atStart => exact ⟨0, Nat.zero_le _, by simp, rfl, by rw [mkTo_zero]; exact hO, OnlyS.refl _ _⟩
  case round =>
    obtain ⟨j, hj, rfl, rfl, ho, hs⟩ := hrel
    by_cases hlt : j < xs.length
    · have hxj : xs[j]? = some xs[j] := List.getElem?_eq_getElem hlt
      obtain ⟨g, ec, Sc, rfl, hgS, hgl, hgc, hSc, hnd, hO1, hfz, hcell, hset, _⟩ := own_elem ho hS (mkTo_get hxj k)
      generalize hxe : xs[j] = x at hxj hO1
      clear hxe
      obtain ⟨rfl, b1, b2, rfl⟩ := hO1
      have hc0 := hcell 0 _ rfl
      simp only [intT, Nat.mul_one, Nat.add_zero] at hc0
      have hf0 := hfz j
      have HX := Lib.hid hxj
      have HC := Lib.hid hcell
      have HS := Lib.hid hset
      clear hcell hset hfz hxj ho hO
      go_wp2
      go_roundw
      case rel =>
        have h := HS.out 0 (.int .i64 (k + j)) (k + j) (by simp [intT]) rfl ⟨rfl, by omega, by omega, rfl⟩
        simp only [intT, Nat.mul_one, Nat.add_zero] at h
        have e := mkTo_set (mk := fun (_ : Int) k => k) (cnt := fun _ => 1) HX.out k
        rw [cnt_one_take (by omega)] at e
        rw [e] at h
        exact ⟨j + 1, by omega, by go_num, by go_num, h.1, hs.trans h.2⟩
      case measure => simp [intOf]; omega
    · go_wp2
      have : j = xs.length := by omega
      subst this
      rw [mkTo_all] at ho
      go_ret
      exact ⟨rfl, ho, hs⟩
/-! ### sizes -/
theorem szIntS_l {xs : List Int} {w : World} {B : Nat} {v : Value} {left : Int} (hx : (intT.sl 3).R w B [v] xs) (h0 : 0 ≤ left) (h1 : left ≤ 1099511627776) :
    Calls Try.prog 52 #[v, .int .i64 left] w fun e w' => e = .returned (.int .i64 (szRes left xs.length)) ∧ Gro w w' := by
  obtain ⟨A, c, rfl, h2, h3⟩ := sl_at hx
  clear hx
  by_cases h : (xs.length : Int) ≤ left
  · have HR := Lib.hid (show szRes left xs.length = left - xs.length from if_pos h)
    go_enter Try.func52, Try.ntmps52
    go_wp2
    go_ret
    exact ⟨ret_int HR.out.symm, Gro.refl _⟩
  · have HR := Lib.hid (show szRes left xs.length = -1 from if_neg h)
    go_enter Try.func52, Try.ntmps52
    go_wp2
    go_ret
    exact ⟨ret_int HR.out.symm, Gro.refl _⟩
theorem toIntS_info : (Try.prog.info? 3).map (fun i => (i.zero, i.size, i.bytes)) = some (some (.int .i64 0), 1, 8) := by kernel_rfl
theorem toIntS_l {xs : List Int} {w : World} {B : Nat} {v : Value} (hx : (intT.sl 3).R w B [v] xs) (hn : xs.length ≤ 1099511627776) :
    Calls Try.prog 56 #[v] w (RetSl intT 3 xs w) := by
  obtain ⟨A, c, rfl, h2, h3⟩ := sl_at hx
  obtain ⟨i0, hi, hz0, hz1, hz2⟩ := info_parts toIntS_info
  have hmk := run_make_rowN (P := Try.prog) 23 3 i0 _ Try.underlying23 hi hz0 .i64 .i64 xs.length xs.length (Nat.le_refl _) (by rw [hz2]; omega) (by omega)
  rw [hz1, Nat.mul_one] at hmk
  clear hz0 hz1 hz2 hi
  go_enter Try.func56, Try.ntmps56
  go_wp2_with (fail)
  go_loopw [4] (fun i wr => ∃ (j : Nat) (cur : Array Value), j ≤ xs.length ∧ i = .int .i64 j ∧ Hid (wr = w.alloc (.cells cur 3)) ∧ Hid (cur.size = xs.length ∧ Rows intT w (cur.toList.take j) (xs.take j) [])) (fun i _ => xs.length - (intOf i).toNat)
  case atStart => exact ⟨0, _, Nat.zero_le _, rfl, rfl, madeCells_size _ _, by simp [Rows]⟩
  case round =>
    obtain ⟨j, cur, hj, rfl, hw, hcur⟩ := hrel
    have hw' := hw.out
    subst hw'
    clear hw hmk
    by_cases hlt : j < xs.length
    · obtain ⟨g, off, x, rfl, hxk, hcx, bx1, bx2⟩ := ints_at hx hlt
      have hgb := World.block_lt_of_cell? _ _ hcx
      simp only at hgb
      have hsz : j < cur.size := by have := hcur.out.1; omega
      have hget : cur[j]? = some cur[j] := Array.getElem?_eq_getElem hsz
      generalize cur[j] = old at hget
      have HX := Lib.hid hxk
      clear hxk hx
      go_wp2
      go_roundw
      case rel =>
        refine ⟨j + 1, _, by omega, by go_num, rfl, by simp [hcur.out.1], ?_⟩
        rw [take_snoc HX.out, Array.toList_setIfInBounds, take_snoc (x := Value.int .i64 x) (by rw [List.getElem?_set_self]; rw [Array.length_toList]; exact hsz), List.take_set_of_le (Nat.le_refl _)]
        exact Rows.snoc hcur.out.2 ⟨rfl, bx1, bx2, rfl⟩
      case measure => simp [intOf]; omega
    · have hje : j = xs.length := by omega
      subst hje
      go_wp2
      go_ret
      obtain ⟨hcs, hrow⟩ := hcur.out
      rw [List.take_length, List.take_of_length_le (by rw [Array.length_toList]; omega)] at hrow
      exact ⟨_, _, rfl, ⟨_, own_made (heap_alloc_new w _) (hrow.keep (fun k hk => by simp at hk)) (by omega), by simp, by simp⟩, (Gro.refl _).alloc _⟩
end Go.Proofs.Ytbhobjepjaeffaa
namespace Go.Proofs.Ytbhobjepjaeffaa
open Go.RowKit
theorem bits_or_comm (k : IntKind) (x y : Int) : bits .or k x y = bits .or k y x := by simp only [bits, BitVec.or_comm]
theorem wraps_i64 (n : Int) (h0 : 0 ≤ n) (h1 : n < 2 ^ 62) : IntKind.i64.wrap n = n := IntWalk.i64_in n ⟨by omega, by omega⟩
end Go.Proofs.Ytbhobjepjaeffaa
namespace Go.Proofs.Ytbhobjepjaeffaa
open Go.RowKit
/-- cells p + j .. of an array, stored one by one -/
def setA (cur : Array Value) (p : Nat) : Nat → List Value → Array Value
  | _, [] => cur
  | j, v :: vs => setA (cur.setIfInBounds (p + j) v) p (j + 1) vs
def setL (l : List Value) (p : Nat) : Nat → List Value → List Value
  | _, [] => l
  | j, v :: vs => setL (l.set (p + j) v) p (j + 1) vs
theorem setA_toList (vs : List Value) : ∀ (cur : Array Value) (p j : Nat), (setA cur p j vs).toList = setL cur.toList p j vs := by
  induction vs with
  | nil => intro cur p j; rfl
  | cons v vs ih => intro cur p j; simp only [setA, setL]; rw [ih, Array.toList_setIfInBounds]
theorem setL_length (vs : List Value) : ∀ (l : List Value) (p j : Nat), (setL l p j vs).length = l.length := by
  induction vs with
  | nil => intro l p j; rfl
  | cons v vs ih => intro l p j; simp only [setL]; rw [ih, List.length_set]
theorem setA_size (vs : List Value) (cur : Array Value) (p j : Nat) : (setA cur p j vs).size = cur.size := by
  rw [← Array.length_toList, setA_toList, setL_length, Array.length_toList]
theorem setL_eq (vs : List Value) : ∀ (l : List Value) (p j : Nat), p + j + vs.length ≤ l.length → setL l p j vs = l.take (p + j) ++ (vs ++ l.drop (p + j + vs.length)) := by
  induction vs with
  | nil => intro l p j _; simp [setL]
  | cons v vs ih =>
    intro l p j h
    simp only [List.length_cons] at h
    have hl : (l.take (p + j)).length = p + j := by rw [List.length_take]; omega
    simp only [setL]
    rw [ih _ _ _ (by rw [List.length_set]; omega), List.length_cons, show p + (j + 1) = p + j + 1 from rfl, List.drop_set_of_lt (by omega), List.take_add_one, List.take_set_of_le (Nat.le_refl _), List.getElem?_set_self (by omega)]
    simp only [Option.toList_some, List.append_assoc, List.cons_append, List.nil_append]
    rw [show p + j + 1 + vs.length = p + j + (vs.length + 1) from by omega]
theorem setL_take (vs : List Value) (l : List Value) (p : Nat) (h : p + vs.length ≤ l.length) : (setL l p 0 vs).take (p + vs.length) = l.take p ++ vs := by
  rw [setL_eq vs l p 0 (by omega), ← List.append_assoc]
  rw [List.take_append_of_le_length (by rw [List.length_append, List.length_take]; omega), List.take_of_length_le (by rw [List.length_append, List.length_take]; omega)]
  rfl
/-- one round of toXS: the j-th element's cells go into the row -/
theorem rows_put {α : Type} {T : Ty α} {e : TypeId} {w : World} {cur : Array Value} {os os1 : Array Obj} {d d1 : Nat} {xs : List α} {x : α} {j n : Nat} {S' : List Nat} {ec : List Value}
    (hr : Rows T (gro (w.alloc (.cells cur e)) os d) (cur.toList.take (j * T.size)) (xs.take j) S') (hN : S'.Nodup) (hL : ∀ b ∈ S', w.heap.size + 1 ≤ b)
    (hsz : cur.size = n * T.size) (hj : j < n) (hx : xs[j]? = some x)
    (hF : Fresh T (gro (w.alloc (.cells cur e)) os d) (gro (w.alloc (.cells cur e)) os1 d1) ec x) (hg : Gro (gro (w.alloc (.cells cur e)) os d) (gro (w.alloc (.cells cur e)) os1 d1)) :
    ∃ S'', Rows T (gro (w.alloc (.cells (setA cur (j * T.size) 0 ec) e)) os1 d1) ((setA cur (j * T.size) 0 ec).toList.take ((j + 1) * T.size)) (xs.take (j + 1)) S'' ∧ S''.Nodup ∧ (∀ b ∈ S'', w.heap.size + 1 ≤ b) ∧ (setA cur (j * T.size) 0 ec).size = n * T.size := by
  obtain ⟨S, hO, hN2, hL2⟩ := hF
  have hlen : ec.length = T.size := T.lenO hO
  have hle : (j + 1) * T.size ≤ n * T.size := Nat.mul_le_mul_right _ hj
  have hadd : (j + 1) * T.size = j * T.size + T.size := by rw [Nat.add_mul, Nat.one_mul]
  have key : ∀ k, w.heap.size + 1 ≤ k → (gro (w.alloc (.cells (setA cur (j * T.size) 0 ec) e)) os1 d1).heap[k]? = (gro (w.alloc (.cells cur e)) os1 d1).heap[k]? := by
    intro k hk
    have h1 : ∀ o : Obj, (w.alloc o).heap.size = w.heap.size + 1 := fun o => World.size_alloc w o
    simp only [gro]
    rw [Array.getElem?_append_right (by rw [h1]; exact hk), Array.getElem?_append_right (by rw [h1]; exact hk), h1, h1]
  have hU := Rows.lt hr
  have r1 : Rows T (gro (w.alloc (.cells (setA cur (j * T.size) 0 ec) e)) os1 d1) (cur.toList.take (j * T.size)) (xs.take j) S' :=
    Rows.keep hr (fun k hk => (key k (hL k hk)).trans (hg.block (hU k hk)))
  have hL3 : ∀ b ∈ S, w.heap.size + 1 ≤ b := fun b hb => by have := hL2 b hb; rw [gro_size, World.size_alloc] at this; omega
  have r2 := Rows.snoc r1 (T.keepO hO (fun k hk => key k (hL3 k hk)))
  refine ⟨S' ++ S, ?_, List.nodup_append.2 ⟨hN, hN2, fun a ha b hb he => ?_⟩, fun b hb => ?_, ?_⟩
  · rw [setA_toList, hadd, ← hlen, setL_take _ _ _ (by rw [hlen]; have : cur.toList.length = cur.size := Array.length_toList; omega), hlen, take_snoc hx]
    exact r2
  · have h1 := hU a ha
    have h2 := hL2 b hb
    omega
  · rcases List.mem_append.1 hb with h | h
    · exact hL b h
    · exact hL3 b h
  · rw [setA_size]; exact hsz
theorem rows_done {α : Type} {T : Ty α} {e : TypeId} {w : World} {cur : Array Value} {os : Array Obj} {d : Nat} {xs : List α} {S' : List Nat} {p : Nat}
    (hr : Rows T (gro (w.alloc (.cells cur e)) os d) (cur.toList.take p) (xs.take xs.length) S') (hN : S'.Nodup) (hL : ∀ b ∈ S', w.heap.size + 1 ≤ b) (hsz : cur.size = xs.length * T.size) (hp : xs.length * T.size ≤ p) (hm : xs.length ≤ 9223372036854775807) :
    RetSl T e xs w (.returned (.slice (some ⟨w.heap.size, 0, none⟩) xs.length xs.length)) (gro (w.alloc (.cells cur e)) os d) := by
  rw [List.take_length, List.take_of_length_le (by rw [Array.length_toList, hsz]; exact hp)] at hr
  refine ⟨_, _, rfl, ⟨w.heap.size :: S', own_made (e := e) ?_ hr hm, List.nodup_cons.2 ⟨fun h => by have := hL _ h; omega, hN⟩, fun b hb => ?_⟩, ((Gro.refl _).alloc _).more _ _⟩
  · rw [gro_get _ _ _ (by simp), World.alloc]
    simp
  · rcases List.mem_cons.1 hb with h | h
    · omega
    · have := hL b h; omega
/-- cells of a row stored one by one -/
def setRow (w : World) (g p : Nat) : Nat → List Value → World
  | _, [] => w
  | j, v :: vs => setRow (w.setCell ⟨g, p + j, none⟩ v) g p (j + 1) vs
theorem setRow_at (vs : List Value) : ∀ (w : World) (g p j : Nat) (cur : Array Value) (e : TypeId), w.heap[g]? = some (.cells cur e (0, 0)) → (setRow w g p j vs).heap[g]? = some (.cells (setA cur p j vs) e (0, 0)) := by
  induction vs with
  | nil => intro w g p j cur e h; exact h
  | cons v vs ih => intro w g p j cur e h; exact ih _ _ _ _ _ _ (heap_setCell_at h _ _)
theorem setRow_only (vs : List Value) {S : List Nat} {g : Nat} (hg : g ∈ S) : ∀ (w0 w : World) (p j : Nat), OnlyS S w0 w → OnlyS S w0 (setRow w g p j vs) := by
  induction vs with
  | nil => intro w0 w p j h; exact h
  | cons v vs ih => intro w0 w p j h; exact ih _ _ _ _ (h.setCell (p := ⟨g, p + j, none⟩) hg v)
theorem setRow_other (vs : List Value) : ∀ (w : World) (g p j k : Nat), k ≠ g → (setRow w g p j vs).heap[k]? = w.heap[k]? := by
  induction vs with
  | nil => intro w g p j k _; rfl
  | cons v vs ih => intro w g p j k hk; exact (ih _ _ _ _ _ hk).trans (Below.heap_setCell w ⟨g, p + j, none⟩ v k hk)
/-- the k-th element of an owned list: where it lies; and what storing all its cells anew leaves -/
theorem own_put {α : Type} {T : Ty α} {e : TypeId} {w : World} {A : Option Addr} {n c : Nat} {xs : List α} {S : List Nat} (h : (T.sl e).O w [.slice A n c] xs S) (hS : S.Nodup) {k : Nat} {x : α} (hx : xs[k]? = some x) :
    ∃ g ec Sc, A = some ⟨g, 0, none⟩ ∧ g ∈ S ∧ g < w.heap.size ∧ g ∉ Sc ∧ (∀ j ∈ Sc, j ∈ S) ∧ T.O w ec x Sc ∧ (∀ j, w.frozen? ⟨g, j, none⟩ = false) ∧ (∀ j u, ec[j]? = some u → w.cell? ⟨g, k * T.size + j, none⟩ = some u) ∧
      (∀ ec' y, T.O w ec' y Sc → (T.sl e).O (setRow w g (k * T.size) 0 ec') [.slice A n c] (xs.set k y) S ∧ OnlyS S w (setRow w g (k * T.size) 0 ec')) := by
  obtain ⟨A', c', ecs, S', h1, h2, h3, rfl⟩ := h
  injection h1 with h1 _
  injection h1 with hA hn hc
  subst hA hn hc
  have hk : k < xs.length := (List.getElem?_eq_some_iff.1 hx).1
  obtain ⟨a, ec, b, Sa, Sc, Sb, rfl, rfl, hl, ha, hO, hb⟩ := Rows.part h3 hx
  obtain ⟨hlen, hrest⟩ := h2
  rcases hrest with ⟨_, hn⟩ | ⟨g, cap, cur, hv, hbase, hg, hnc, hcm, hcs, htake⟩
  · omega
  · injection hv with hA _ hc
    subst hA hc
    have hgl : g < w.heap.size := (Array.getElem?_eq_some_iff.1 hg).1
    simp only [blockOf, List.singleton_append, List.nodup_cons, List.nodup_append, List.mem_append, not_or] at hS
    obtain ⟨⟨hga, hgc, hgb⟩, hna, ⟨hncd, hnb, hdcb⟩, hda⟩ := hS
    have hec : ec.length = T.size := T.lenO hO
    have hlc : (a ++ (ec ++ b)).length ≤ cur.size := by
      rw [← htake, List.length_take]
      have : cur.toList.length = cur.size := Array.length_toList
      omega
    have hcell : ∀ (j : Nat) (u : Value), (a ++ (ec ++ b))[j]? = some u → cur[j]? = some u := by
      intro j u hu
      rw [← htake, List.getElem?_take] at hu
      split at hu
      · simpa using hu
      · cases hu
    refine ⟨g, ec, Sc, rfl, by simp [blockOf], hgl, hgc, fun j hj => by simp [hj], hO, fun j => by simp [World.frozen?, hg], fun j u hu => ?_, fun ec' y hy => ?_⟩
    · rw [cell_of_row w g _ cur e (0, 0) hg]
      apply hcell
      rw [List.getElem?_append_right (by omega), hl, Nat.add_sub_cancel_left, List.getElem?_append_left (List.getElem?_eq_some_iff.1 hu).1]
      exact hu
    · have hec' : ec'.length = T.size := T.lenO hy
      have hother : ∀ i, i ≠ g → (setRow w g (k * T.size) 0 ec').heap[i]? = w.heap[i]? := fun i hi => setRow_other _ _ _ _ _ _ hi
      have hl2 : (a ++ (ec ++ b)).length = a.length + ec.length + b.length := by simp only [List.length_append]; omega
      refine ⟨⟨some ⟨g, 0, none⟩, c, a ++ (ec' ++ b), _, by rw [List.length_set], ⟨?_, .inr ⟨g, c, setA cur (k * T.size) 0 ec', by rw [List.length_set], hbase, setRow_at _ _ _ _ _ _ _ hg, by simpa using hnc, hcm, by rw [setA_size]; exact hcs, ?_⟩⟩, Rows.join hx (Rows.keep ha ?_) (T.keepO hy ?_) (Rows.keep hb ?_), rfl⟩, ?_⟩
      · rw [List.length_set, ← hlen]
        simp [hec, hec']
      · rw [List.length_set]
        rw [setA_toList, setL_eq _ _ _ _ (by rw [hec']; have : cur.toList.length = cur.size := Array.length_toList; omega)]
        have hM : xs.length * T.size = a.length + ec.length + b.length := by rw [← hlen, hl2]
        have e1 : cur.toList.take (k * T.size + 0) = a := by
          have h := congrArg (List.take (k * T.size)) htake
          rw [List.take_take, Nat.min_eq_left (by omega)] at h
          rw [Nat.add_zero, h, List.take_append_of_le_length (Nat.le_of_eq hl.symm), List.take_of_length_le (Nat.le_of_eq hl)]
        have e2 : (cur.toList.drop (k * T.size + 0 + ec'.length)).take (xs.length * T.size - (k * T.size + T.size)) = b := by
          have h := congrArg (List.drop (k * T.size + T.size)) htake
          have hae : (a ++ ec).length = k * T.size + T.size := by rw [List.length_append, hl, hec]
          rw [List.drop_take, ← List.append_assoc, List.drop_append_of_le_length (Nat.le_of_eq hae.symm), List.drop_of_length_le (Nat.le_of_eq hae), List.nil_append] at h
          rw [hec', Nat.add_zero]
          exact h
        have hae' : (a ++ ec').length = k * T.size + T.size := by rw [List.length_append, hl, hec']
        rw [e1, ← List.append_assoc, List.take_append, List.take_of_length_le (by rw [hae']; omega), hae', e2, List.append_assoc]
      · exact fun i hi => hother i (fun e => hga (e ▸ hi))
      · exact fun i hi => hother i (fun e => hgc (e ▸ hi))
      · exact fun i hi => hother i (fun e => hgb (e ▸ hi))
      · exact setRow_only _ (by simp [blockOf]) _ _ _ _ (OnlyS.refl _ _)
end Go.Proofs.Ytbhobjepjaeffaa
namespace Go.Proofs.Ytbhobjepjaeffaa
open Go.RowKit
def isLow (c : UInt8) : Bool := decide (97 ≤ (c.toNat : Int)) && decide ((c.toNat : Int) ≤ 122)
def nameOk (s : ByteArray) : Bool := s.data.toList.all isLow && btw s.size 1 8
theorem bytes_get (s : ByteArray) (k : Nat) (h : k < s.size) : s.data.toList[k]? = some s[k] := by
  rw [List.getElem?_eq_getElem (by simpa using h)]; rfl
theorem all_snoc {α : Type} {xs : List α} {f : α → Bool} {j : Nat} {x : α} (h : xs[j]? = some x) (ha : (xs.take j).all f = true) (hf : f x = true) : (xs.take (j + 1)).all f = true := by
  rw [take_snoc h, List.all_append, ha]
  simp [hf]
theorem all_not {α : Type} {xs : List α} {f : α → Bool} {j : Nat} {x : α} (h : xs[j]? = some x) (hf : f x = false) : xs.all f = false := by
  rw [List.all_eq_false]
  exact ⟨x, List.mem_of_getElem? h, by simp [hf]⟩
theorem nameOk_i (s : ByteArray) (w : World) (hs : s.size ≤ 9223372036854775807) : Calls Try.prog 112 #[.string s] w fun e w' => e = .returned (.bool (nameOk s)) ∧ w = w' := by
  go_enter Try.func112, Try.ntmps112
  go_wp2_with (fail)
  go_loop [3] (fun i => ∃ k : Nat, k ≤ s.size ∧ i = .int .i64 k ∧ Hid ((s.data.toList.take k).all isLow = true)) (fun i => s.size - (intOf i).toNat)
  case atStart => exact ⟨0, Nat.zero_le _, rfl, Lib.hid (by simp)⟩
  case round =>
    obtain ⟨k, hk, rfl, ha⟩ := hrel
    by_cases hlt : k < s.size
    · have HX := Lib.hid (bytes_get s k hlt)
      by_cases h1 : 97 ≤ (s[k].toNat : Int)
      · by_cases h2 : (s[k].toNat : Int) ≤ 122
        · go_wp2
          go_round
          case rel => exact ⟨k + 1, by omega, by go_num, Lib.hid (all_snoc HX.out ha.out (by simp only [isLow, Bool.and_eq_true, decide_eq_true_eq]; exact ⟨h1, h2⟩))⟩
          case measure => simp [intOf]; omega
        · have HF := Lib.hid (all_not (f := isLow) HX.out (by simp only [isLow, Bool.and_eq_false_iff, decide_eq_false_iff_not]; exact .inr h2))
          go_wp2
          go_ret
          exact ⟨ret_bool (by unfold nameOk; rw [HF.out]; rfl), rfl⟩
      · have HF := Lib.hid (all_not (f := isLow) HX.out (by simp only [isLow, Bool.and_eq_false_iff, decide_eq_false_iff_not]; exact .inl h1))
        go_wp2
        go_ret
        exact ⟨ret_bool (by unfold nameOk; rw [HF.out]; rfl), rfl⟩
    · have hje : k = s.size := by omega
      subst hje
      have HA := Lib.hid (show nameOk s = btw s.size 1 8 from by unfold nameOk; rw [← List.take_length (l := s.data.toList)]; have := ha.out; rw [show s.size = s.data.toList.length from by rw [Array.length_toList]; rfl] at this; rw [this]; rfl)
      clear ha
      go_wp2_with (first | (go_at_call 48; (with_reducible refine (in_i _ _ _ _).mono ?_); rintro e w1 ⟨rfl, rfl⟩))
      go_ret
      exact ⟨ret_bool HA.out.symm, rfl⟩
theorem nameOk_s (s : ByteArray) (w : World) (hs : s.size ≤ 9223372036854775807) : Calls Try.prog 110 #[.string s] w fun e w' => e = .returned (.bool (nameOk s)) ∧ w = w' := by
  go_enter Try.func110, Try.ntmps110
  go_wp2_with (fail)
  go_loop [3] (fun i => ∃ k : Nat, k ≤ s.size ∧ i = .int .i64 k ∧ Hid ((s.data.toList.take k).all isLow = true)) (fun i => s.size - (intOf i).toNat)
  case atStart => exact ⟨0, Nat.zero_le _, rfl, Lib.hid (by simp)⟩
  case round =>
    obtain ⟨k, hk, rfl, ha⟩ := hrel
    by_cases hlt : k < s.size
    · have HX := Lib.hid (bytes_get s k hlt)
      by_cases h1 : 97 ≤ (s[k].toNat : Int)
      · by_cases h2 : (s[k].toNat : Int) ≤ 122
        · go_wp2
          go_round
          case rel => exact ⟨k + 1, by omega, by go_num, Lib.hid (all_snoc HX.out ha.out (by simp only [isLow, Bool.and_eq_true, decide_eq_true_eq]; exact ⟨h1, h2⟩))⟩
          case measure => simp [intOf]; omega
        · have HF := Lib.hid (all_not (f := isLow) HX.out (by simp only [isLow, Bool.and_eq_false_iff, decide_eq_false_iff_not]; exact .inr h2))
          go_wp2
          go_ret
          exact ⟨ret_bool (by unfold nameOk; rw [HF.out]; rfl), rfl⟩
      · have HF := Lib.hid (all_not (f := isLow) HX.out (by simp only [isLow, Bool.and_eq_false_iff, decide_eq_false_iff_not]; exact .inl h1))
        go_wp2
        go_ret
        exact ⟨ret_bool (by unfold nameOk; rw [HF.out]; rfl), rfl⟩
    · have hje : k = s.size := by omega
      subst hje
      have HA := Lib.hid (show nameOk s = btw s.size 1 8 from by unfold nameOk; rw [← List.take_length (l := s.data.toList)]; have := ha.out; rw [show s.size = s.data.toList.length from by rw [Array.length_toList]; rfl] at this; rw [this]; rfl)
      clear ha
      go_wp2_with (first | (go_at_call 44; (with_reducible refine (in_s _ _ _ _).mono ?_); rintro e w1 ⟨rfl, rfl⟩))
      go_ret
      exact ⟨ret_bool HA.out.symm, rfl⟩
end Go.Proofs.Ytbhobjepjaeffaa
namespace Go.Proofs.Ytbhobjepjaeffaa
open Go.RowKit
/-- how many bytes an argument has, and whether it has a sign -/
def opW (c : Int) : Nat × Bool :=
  if c = 0 then (4, true)
  else if c = 1 ∨ c = 2 ∨ c = 3 ∨ c = 4 ∨ c = 10 ∨ c = 11 then (2, true)
  else if c = 16 then (2, false)
  else if c = 12 ∨ c = 13 ∨ c = 14 ∨ c = 15 then (1, false)
  else (0, false)
theorem opW_cases (c : Int) : opW c = (4, true) ∨ opW c = (2, true) ∨ opW c = (2, false) ∨ opW c = (1, false) ∨ opW c = (0, false) := by
  unfold opW
  split
  · simp
  · split
    · simp
    · split
      · simp
      · split <;> simp
theorem opW_le (c : Int) : (opW c).1 ≤ 4 := by
  rcases opW_cases c with h | h | h | h | h <;> rw [h] <;> decide
def opSize (c : Int) : Int := if btw c 0 17 = true then ((opW c).1 : Int) + 1 else 0
def byteN (s : ByteArray) (a : Nat) : Nat := (s.data.toList[a]?.map UInt8.toNat).getD 0
theorem byteN_get {s : ByteArray} {a : Nat} (h : a < s.size) : byteN s a = s[a].toNat := by
  unfold byteN
  rw [bytes_get s a h]
  rfl
theorem byteN_lt (s : ByteArray) (a : Nat) : byteN s a < 256 := by
  unfold byteN
  cases s.data.toList[a]? with
  | none => simp
  | some b => simpa using b.toNat_lt
/-- the number of k bytes from a on, the least first -/
def argU (s : ByteArray) (a : Nat) : Nat → Nat
  | 0 => 0
  | k + 1 => argU s a k + byteN s (a + k) * 256 ^ k
theorem argU_lt (s : ByteArray) (a : Nat) : ∀ k, argU s a k < 256 ^ k
  | 0 => by simp [argU]
  | k + 1 => by
    have h1 := argU_lt s a k
    have h2 := byteN_lt s (a + k)
    have h3 : byteN s (a + k) * 256 ^ k ≤ 255 * 256 ^ k := Nat.mul_le_mul_right _ (by omega)
    have h4 : (256 : Nat) ^ (k + 1) = 256 * 256 ^ k := by rw [Nat.pow_succ, Nat.mul_comm]
    simp only [argU]
    omega
def argS (w : Nat) (sg : Bool) (u : Nat) : Int := if sg = true ∧ 2 ^ (8 * w - 1) ≤ u then (u : Int) - 2 ^ (8 * w) else u
structure OpR where
  code : Int
  arg : Int
  n : Nat
  ok : Bool
def decOp (s : ByteArray) (a : Int) : OpR :=
  if 0 ≤ a ∧ a < s.size ∧ byteN s a.toNat ≤ 17 ∧ a.toNat + 1 + (opW (byteN s a.toNat : Nat)).1 ≤ s.size then
    ⟨(byteN s a.toNat : Nat), argS (opW (byteN s a.toNat : Nat)).1 (opW (byteN s a.toNat : Nat)).2 (argU s (a.toNat + 1) (opW (byteN s a.toNat : Nat)).1), (opW (byteN s a.toNat : Nat)).1 + 1, true⟩
  else ⟨0, 0, 0, false⟩
theorem decOp_no {s : ByteArray} {a : Int} (h : ¬ (0 ≤ a ∧ a < s.size ∧ byteN s a.toNat ≤ 17 ∧ a.toNat + 1 + (opW (byteN s a.toNat : Nat)).1 ≤ s.size)) : decOp s a = ⟨0, 0, 0, false⟩ := if_neg h
theorem decOp_yes {s : ByteArray} {a : Nat} {c w : Nat} {sg : Bool} (h1 : a < s.size) (h2 : byteN s a = c) (h3 : c ≤ 17) (h4 : opW (c : Int) = (w, sg)) (h5 : a + 1 + w ≤ s.size) : decOp s (a : Int) = ⟨c, argS w sg (argU s (a + 1) w), w + 1, true⟩ := by
  unfold decOp
  rw [Int.toNat_natCast, h2, h4, if_pos ⟨by omega, by omega, h3, h5⟩]
theorem decOp_ok {s : ByteArray} {a : Int} {r : OpR} (h : decOp s a = r) (hk : r.ok = true) : 0 ≤ a ∧ 1 ≤ r.n ∧ r.n ≤ 5 ∧ a + r.n ≤ s.size ∧ 0 ≤ r.code ∧ r.code ≤ 17 := by
  subst h
  unfold decOp at hk ⊢
  split
  · rename_i h
    have := opW_le (byteN s a.toNat : Nat)
    simp only
    omega
  · rename_i h
    rw [if_neg h] at hk
    cases hk
theorem decOp_zero {s : ByteArray} {a : Int} {r : OpR} (h : decOp s a = r) (hk : r.ok = false) : r = ⟨0, 0, 0, false⟩ := by
  subst h
  unfold decOp at hk ⊢
  split
  · rename_i h
    rw [if_pos h] at hk
    cases hk
  · rfl
theorem argS_bd (w : Nat) (sg : Bool) (u : Nat) (hw : w ≤ 4) (hu : u < 256 ^ w) : -2147483648 ≤ argS w sg u ∧ argS w sg u ≤ 4294967295 := by
  unfold argS
  have h4 : w = 0 ∨ w = 1 ∨ w = 2 ∨ w = 3 ∨ w = 4 := by omega
  split
  · rename_i h
    obtain ⟨_, h⟩ := h
    rcases h4 with rfl | rfl | rfl | rfl | rfl <;> simp at h hu ⊢ <;> omega
  · rcases h4 with rfl | rfl | rfl | rfl | rfl <;> simp at hu ⊢ <;> omega
theorem decOp_arg {s : ByteArray} {a : Int} {r : OpR} (h : decOp s a = r) : -2147483648 ≤ r.arg ∧ r.arg ≤ 4294967295 := by
  subst h
  unfold decOp
  split
  · exact argS_bd _ _ _ (opW_le _) (argU_lt _ _ _)
  · simp
/-- the argument's bounds by the code -/
theorem decOp_bd {s : ByteArray} {a : Int} {r : OpR} (h : decOp s a = r) : (r.code = 1 ∨ r.code = 2 ∨ r.code = 3 ∨ r.code = 4 ∨ r.code = 10 ∨ r.code = 11 → -32768 ≤ r.arg ∧ r.arg ≤ 32767) ∧ (r.code = 16 → 0 ≤ r.arg ∧ r.arg ≤ 65535) ∧ (r.code = 12 ∨ r.code = 13 ∨ r.code = 14 ∨ r.code = 15 → 0 ≤ r.arg ∧ r.arg ≤ 255) := by
  subst h
  unfold decOp
  split
  · simp only
    refine ⟨fun hc => ?_, fun hc => ?_, fun hc => ?_⟩
    · have e : opW (byteN s a.toNat : Nat) = (2, true) := by
        unfold opW
        rw [if_neg (by omega), if_pos hc]
      rw [e]
      have := argU_lt s (a.toNat + 1) 2
      simp only at this ⊢
      unfold argS
      split <;> simp at this ⊢ <;> (try (rename_i hh; simp at hh)) <;> omega
    · have e : opW (byteN s a.toNat : Nat) = (2, false) := by
        unfold opW
        rw [if_neg (by omega), if_neg (by omega), if_pos hc]
      rw [e]
      have := argU_lt s (a.toNat + 1) 2
      simp [argS] at this ⊢
      omega
    · have e : opW (byteN s a.toNat : Nat) = (1, false) := by
        unfold opW
        rw [if_neg (by omega), if_neg (by omega), if_neg (by omega), if_pos hc]
      rw [e]
      have := argU_lt s (a.toNat + 1) 1
      simp [argS] at this ⊢
      omega
  · simp
/-- whether a text of instructions can be read from a place on -/
def disF (s : ByteArray) : Nat → Nat → Bool
  | 0, a => decide (s.size ≤ a)
  | f + 1, a => if a < s.size then (if (decOp s (a : Int)).ok = true then disF s f (a + (decOp s (a : Int)).n) else false) else true
def disOk (s : ByteArray) (a : Nat) : Bool := disF s (s.size - a) a
theorem disF_more (s : ByteArray) : ∀ (f a : Nat), s.size - a ≤ f → disF s f a = disF s (s.size - a) a := by
  intro f
  induction f with
  | zero => intro a h; rw [show s.size - a = 0 from by omega]
  | succ f ih =>
    intro a h
    by_cases ha : a < s.size
    · obtain ⟨k, hk⟩ : ∃ k, s.size - a = k + 1 := ⟨s.size - a - 1, by omega⟩
      rw [hk]
      simp only [disF, if_pos ha]
      split
      · rename_i hok
        have := decOp_ok (s := s) (a := (a : Int)) rfl hok
        rw [ih _ (by omega)]
        have key : ∀ g, s.size - (a + (decOp s (a : Int)).n) ≤ g → g ≤ f → disF s g (a + (decOp s (a : Int)).n) = disF s (s.size - (a + (decOp s (a : Int)).n)) (a + (decOp s (a : Int)).n) := by
          intro g hg hgf
          by_cases e : g = f
          · subst e; exact ih _ hg
          · obtain ⟨d, hd⟩ : ∃ d, g = (s.size - (a + (decOp s (a : Int)).n)) + d := ⟨_, (Nat.add_sub_cancel' hg).symm⟩
            clear hgf e
            subst hd
            generalize (a + (decOp s (a : Int)).n) = b
            clear ih h ha hk hok this hg
            suffices h : ∀ (m d b : Nat), s.size - b ≤ m → disF s (m + d) b = disF s m b by exact h _ d b (Nat.le_refl _)
            intro m
            induction m with
            | zero =>
              intro d b hb
              cases d with
              | zero => rfl
              | succ d => simp only [Nat.zero_add, disF]; rw [if_neg (by omega)]; simp; omega
            | succ m im =>
              intro d b hb
              rw [Nat.add_right_comm]
              simp only [disF]
              split
              · split
                · rename_i h1 h2
                  have := decOp_ok (s := s) (a := (b : Int)) rfl h2
                  exact im _ _ (by omega)
                · rfl
              · rfl
        exact (key k (by omega) (by omega)).symm
      · rfl
    · rw [show s.size - a = 0 from by omega]
      simp only [disF, if_neg ha]
      simp; omega
theorem disOk_end {s : ByteArray} {a : Nat} (h : s.size ≤ a) : disOk s a = true := by
  unfold disOk
  rw [show s.size - a = 0 from by omega]
  simp [disF, h]
theorem disOk_bad {s : ByteArray} {a : Nat} (h : a < s.size) (hk : (decOp s (a : Int)).ok = false) : disOk s a = false := by
  unfold disOk
  obtain ⟨k, hk'⟩ : ∃ k, s.size - a = k + 1 := ⟨s.size - a - 1, by omega⟩
  rw [hk']
  simp [disF, h, hk]
theorem disOk_step {s : ByteArray} {a : Nat} (h : a < s.size) (hk : (decOp s (a : Int)).ok = true) : disOk s a = disOk s (a + (decOp s (a : Int)).n) := by
  have := decOp_ok (s := s) (a := (a : Int)) rfl hk
  unfold disOk
  obtain ⟨k, hk'⟩ : ∃ k, s.size - a = k + 1 := ⟨s.size - a - 1, by omega⟩
  rw [hk']
  simp only [disF, if_pos h, if_pos hk]
  exact disF_more _ _ _ (by omega)
end Go.Proofs.Ytbhobjepjaeffaa
namespace Go.Proofs.Ytbhobjepjaeffaa
open Go.RowKit
set_option maxRecDepth 100000 in
theorem argument_i (c : Int) (w : World) : Calls Try.prog 153 #[.int .i64 c] w fun e w' => e = .returned (.tuple #[.int .i64 ((opW c).1 : Int), .bool (opW c).2]) ∧ w = w' := by
  go_enter Try.func153, Try.ntmps153
  go_wp2
  all_goals
    go_ret2
    refine ⟨?_, rfl⟩
    simp_all [opW]
set_option maxRecDepth 100000 in
theorem width_s (c : Int) (w : World) : Calls Try.prog 161 #[.int .i64 c] w fun e w' => e = .returned (.tuple #[.int .i64 ((opW c).1 : Int), .bool (opW c).2]) ∧ w = w' := by
  go_enter Try.func161, Try.ntmps161
  go_wp2
  all_goals
    go_ret2
    refine ⟨?_, rfl⟩
    simp_all [opW]
theorem opSize_def (c : Int) : opSize c = if btw c 0 17 = true then ((opW c).1 : Int) + 1 else 0 := rfl
set_option maxRecDepth 100000 in
theorem opSize_i (c : Int) (w : World) : Calls Try.prog 152 #[.int .i64 c] w fun e w' => e = .returned (.int .i64 (opSize c)) ∧ w = w' := by
  have hle := opW_le c
  obtain ⟨n, sg, hw⟩ : ∃ n sg, opW c = (n, sg) := ⟨_, _, rfl⟩
  rw [hw] at hle
  have HW := Lib.hid hw
  cases hb : btw c 0 17
  · have HS := Lib.hid (show opSize c = 0 from by simp [opSize, hb])
    have HB := Lib.hid hb
    clear hb hw
    go_enter Try.func152, Try.ntmps152
    go_wp2_with (go_at_call 48; (with_reducible refine (in_i _ _ _ _).mono ?_); rw [HB.out]; rintro e w1 ⟨rfl, rfl⟩)
    go_ret
    exact ⟨ret_int HS.out.symm, rfl⟩
  · have HS := Lib.hid (show opSize c = (n : Int) + 1 from by simp [opSize, hb, hw])
    have HB := Lib.hid hb
    clear hb hw
    go_enter Try.func152, Try.ntmps152
    go_wp2_with (first
      | (go_at_call 48; (with_reducible refine (in_i _ _ _ _).mono ?_); rw [HB.out]; rintro e w1 ⟨rfl, rfl⟩)
      | (go_at_call 153; (with_reducible refine (argument_i _ _).mono ?_); rw [HW.out]; rintro e w1 ⟨rfl, rfl⟩))
    go_ret
    exact ⟨ret_int HS.out.symm, rfl⟩
set_option maxRecDepth 100000 in
theorem opSize_s (c : Int) (w : World) : Calls Try.prog 162 #[.int .i64 c] w fun e w' => e = .returned (.int .i64 (opSize c)) ∧ w = w' := by
  have hle := opW_le c
  obtain ⟨n, sg, hw⟩ : ∃ n sg, opW c = (n, sg) := ⟨_, _, rfl⟩
  rw [hw] at hle
  have HW := Lib.hid hw
  cases hb : btw c 0 17
  · have HS := Lib.hid (show opSize c = 0 from by simp [opSize, hb])
    have HB := Lib.hid hb
    clear hb hw
    go_enter Try.func162, Try.ntmps162
    go_wp2_with (go_at_call 44; (with_reducible refine (in_s _ _ _ _).mono ?_); rw [HB.out]; rintro e w1 ⟨rfl, rfl⟩)
    go_ret
    exact ⟨ret_int HS.out.symm, rfl⟩
  · have HS := Lib.hid (show opSize c = 1 + (n : Int) from by simp [opSize, hb, hw, Int.add_comm])
    have HB := Lib.hid hb
    clear hb hw
    go_enter Try.func162, Try.ntmps162
    go_wp2_with (first
      | (go_at_call 44; (with_reducible refine (in_s _ _ _ _).mono ?_); rw [HB.out]; rintro e w1 ⟨rfl, rfl⟩)
      | (go_at_call 161; (with_reducible refine (width_s _ _).mono ?_); rw [HW.out]; rintro e w1 ⟨rfl, rfl⟩))
    go_ret
    exact ⟨ret_int HS.out.symm, rfl⟩
end Go.Proofs.Ytbhobjepjaeffaa
namespace Go.Proofs.Ytbhobjepjaeffaa
open Go.RowKit
/-- owned, by the blocks of S, none twice -/
def Has {α : Type} (T : Ty α) (W : World) (cs : List Value) (x : α) (S : List Nat) : Prop := T.O W cs x S ∧ S.Nodup
theorem Has.lt {α : Type} {T : Ty α} {W : World} {cs : List Value} {x : α} {S : List Nat} (h : Has T W cs x S) : ∀ b ∈ S, b < W.heap.size := T.ltO h.1
theorem Has.read {α : Type} {T : Ty α} {W : World} {cs : List Value} {x : α} {S : List Nat} (h : Has T W cs x S) : T.R W W.heap.size cs x := T.read h.1
theorem Has.keep {α : Type} {T : Ty α} {W W' : World} {cs : List Value} {x : α} {S L : List Nat} (h : Has T W cs x S) (ho : OnlyS L W W') (hd : ∀ b ∈ S, b ∉ L) : Has T W' cs x S :=
  ⟨T.keepO h.1 (fun k hk => ho.block k (h.lt k hk) (hd k hk)), h.2⟩
theorem Has.gro {α : Type} {T : Ty α} {W W' : World} {cs : List Value} {x : α} {S : List Nat} (h : Has T W cs x S) (hg : Gro W W') : Has T W' cs x S := ⟨T.groO h.1 hg, h.2⟩
theorem Has.fresh {α : Type} {T : Ty α} {w W : World} {cs : List Value} {x : α} {S : List Nat} (h : Has T W cs x S) (hl : ∀ b ∈ S, w.heap.size ≤ b) : Fresh T w W cs x := ⟨S, h.1, h.2, hl⟩
theorem Fresh.has {α : Type} {T : Ty α} {w W : World} {cs : List Value} {x : α} (h : Fresh T w W cs x) : ∃ S, Has T W cs x S ∧ ∀ b ∈ S, w.heap.size ≤ b := by
  obtain ⟨S, h1, h2, h3⟩ := h
  exact ⟨S, ⟨h1, h2⟩, h3⟩
theorem Has.same {α : Type} {T : Ty α} {W W' : World} {cs : List Value} {x : α} {S : List Nat} {n : Nat} (h : Has T W cs x S) (hl : ∀ b ∈ S, n ≤ b) (hs : Same n W.heap.size W W') : Has T W' cs x S :=
  ⟨T.keepO h.1 (fun k hk => hs k (hl k hk) (h.lt k hk)), h.2⟩
theorem Has.prod {α β : Type} {T : Ty α} {U : Ty β} {W : World} {c1 c2 : List Value} {x : α × β} {S : List Nat} (hl : c1.length = T.size) (h : Has (T.prod U) W (c1 ++ c2) x S) : ∃ S1 S2, Has T W c1 x.1 S1 ∧ Has U W c2 x.2 S2 ∧ (∀ b ∈ S1, b ∈ S) ∧ (∀ b ∈ S2, b ∈ S) ∧ ∀ b ∈ S1, b ∉ S2 := by
  obtain ⟨⟨d1, d2, S1, S2, he, rfl, h1, h2⟩, hN⟩ := h
  have hl2 := T.lenO h1
  have h3 : c1 = d1 ∧ c2 = d2 := List.append_inj he (by omega)
  obtain ⟨rfl, rfl⟩ := h3
  obtain ⟨n1, n2, n3, _⟩ := nd2 hN
  exact ⟨S1, S2, ⟨h1, n1⟩, ⟨h2, n2⟩, fun b hb => List.mem_append_left _ hb, fun b hb => List.mem_append_right _ hb, n3⟩
theorem Has.nil {α : Type} (T : Ty α) (e : TypeId) (W : World) : Has (T.sl e) W [.slice none 0 0] [] [] := by
  obtain ⟨S, h1, h2, h3⟩ := fresh_nil (T := T) (e := e) W W
  refine ⟨?_, by simp⟩
  obtain ⟨A', c', ecs, S', h4, h5, h6, h7⟩ := h1
  injection h4 with h4 _
  injection h4 with hA hn hc
  subst hA hc
  obtain ⟨h8, h9⟩ := h6
  exact ⟨none, 0, ecs, [], rfl, h5, ⟨h8, rfl⟩, rfl⟩
theorem Has.emp {α : Type} (T : Ty α) {e : TypeId} {W : World} {g : Nat} (hg : W.heap[g]? = some (.cells #[] e (0, 0))) : Has (T.sl e) W [.slice (some ⟨g, 0, none⟩) 0 0] [] [g] :=
  ⟨own_made (T := T) (xs := []) hg ⟨rfl, rfl⟩ (by simp), by simp⟩
section
variable {α : Type} {T : Ty α} {e : TypeId} {P : Program} {t ty : TypeId} {bytes : Nat}
theorem run_append_set (hE : Elem P t e T bytes) {W : World} {S : List Nat} {A : Option Addr} {n c : Nat} {xs : List α} (h : Has (T.sl e) W [.slice A n c] xs S)
    {ad : Addr} {m c' : Nat} {ys : List α} {news : List Value} {Sy : List Nat} (hr : Rows T W news ys Sy) (hm : m = ys.length) (hcell : ∀ j u, news[j]? = some u → W.cell? (ad.add j) = some u)
    (hSy : Sy.Nodup) (hd : ∀ b ∈ S, b ∉ Sy) {L : Nat} (hL : L = n + m) (hb : L * bytes ≤ 140737488355328) (h63 : L ≤ 9223372036854775807) :
    ∃ A' c'' W' S', (Builtin.append_ #[t, t] ty #[.slice A n c, .slice (some ad) m c']).run P W = .ok (.slice A' L c'') W' ∧ OnlyS S W W' ∧ Has (T.sl e) W' [.slice A' L c''] (xs ++ ys) S' ∧ ∀ b ∈ S', b ∈ S ∨ b ∈ Sy ∨ W.heap.size ≤ b := by
  subst hL
  obtain ⟨hO, hN⟩ := h
  obtain ⟨A1, c1, ecs, S', hv, how, hrow, rfl⟩ := hO
  injection hv with hv _
  injection hv with hA hn hc
  subst hA hc
  have hn' : n = xs.length := hn
  obtain ⟨i, z, hi, hz, hsize, hby, hzs⟩ := hE.info
  have hlen : news.length = m * T.size := by rw [hr.len, hm]
  obtain ⟨v', W', hrun, hown, hgrown, _, hat⟩ := run_append_own_at (P := P) W 0 t ty e i z T.size bytes hE.ht hi hz hsize hby hzs hE.pos (.slice A xs.length c) xs.length ecs how ad m c' news hlen hcell hr.one
    (by rw [← hn']; simpa [maxLen] using h63) (by rw [← hn']; exact hb) (Nat.zero_le _)
  subst hn'
  have hkeep : ∀ k, k < W.heap.size → (∀ b ∈ blockOf A, k ≠ b) → W'.heap[k]? = W.heap[k]? := fun k hk hne => hgrown.block k hk (by
    cases A with
    | none => simp [Value.ownBlock]
    | some a => simpa [Value.ownBlock, blockOf] using hne)
  rw [List.nodup_append] at hN
  obtain ⟨hN1, hN2, hN3⟩ := hN
  have hrow' : Rows T W' ecs xs S' := hrow.keep (fun k hk => hkeep k (hrow.lt k hk) (fun b hb => (hN3 b hb k hk).symm))
  have hr' : Rows T W' news ys Sy := hr.keep (fun k hk => hkeep k (hr.lt k hk) (fun b hb heq => hd b (List.mem_append_left _ hb) (heq ▸ hk)))
  have hshape : ∃ A' c'', v' = .slice A' (xs.length + m) c'' ∧ ∀ b ∈ blockOf A', b ∈ blockOf A ∨ b = W.heap.size := by
    rcases hown.2 with ⟨rfl, h0⟩ | ⟨g, cap, cur, rfl, _⟩
    · exact ⟨none, 0, by rw [h0], by simp [blockOf]⟩
    · refine ⟨_, cap, rfl, fun b hb => ?_⟩
      simp [blockOf] at hb
      subst hb
      rcases hat with h | h
      · left
        cases A with
        | none => simp [Value.ownBlock] at h
        | some a => simp [Value.ownBlock] at h; simp [blockOf, h]
      · right
        simpa [Value.ownBlock] using h
  obtain ⟨A', c'', rfl, hA'⟩ := hshape
  refine ⟨A', c'', W', blockOf A' ++ (S' ++ Sy), hrun, ⟨hgrown.os, hgrown.tape, hgrown.output, hgrown.size, fun k hk hn => hkeep k hk (fun b hb heq => hn (List.mem_append_left _ (heq ▸ hb)))⟩,
    ⟨⟨A', c'', ecs ++ news, S' ++ Sy, by rw [List.length_append, hm], by rw [List.length_append, ← hm]; exact hown, hrow'.app hr', rfl⟩, ?_⟩, ?_⟩
  · rw [List.nodup_append]
    refine ⟨by cases A' <;> simp [blockOf], List.nodup_append.2 ⟨hN2, hSy, fun a ha b hb heq => hd a (List.mem_append_right _ ha) (heq ▸ hb)⟩, fun a ha b hb heq => ?_⟩
    subst heq
    rcases hA' a ha with h | h
    · rcases List.mem_append.1 hb with hb | hb
      · exact hN3 a h a hb rfl
      · exact hd a (List.mem_append_left _ h) hb
    · subst h
      rcases List.mem_append.1 hb with hb | hb
      · exact absurd (hrow.lt _ hb) (Nat.lt_irrefl _)
      · exact absurd (hr.lt _ hb) (Nat.lt_irrefl _)
  · intro b hb
    rcases List.mem_append.1 hb with hb | hb
    · rcases hA' b hb with h | h
      · exact .inl (List.mem_append_left _ h)
      · exact .inr (.inr (by omega))
    · rcases List.mem_append.1 hb with hb | hb
      · exact .inl (List.mem_append_right _ hb)
      · exact .inr (.inl hb)
theorem run_append_nil_has (hE : Elem P t e T bytes) {W : World} {S : List Nat} {A : Option Addr} {n c : Nat} {xs : List α} (h : Has (T.sl e) W [.slice A n c] xs S) (c' : Nat) :
    (Builtin.append_ #[t, t] ty #[.slice A n c, .slice none 0 c']).run P W = .ok (.slice A n c) W :=
  run_append_fresh_nil (W0 := { W with heap := #[] }) hE ⟨S, h.1, h.2, fun b _ => Nat.zero_le _⟩ c'
end
section
variable {α : Type} {T : Ty α} {e : TypeId} {P : Program} {t : TypeId} {bytes : Nat} {ops : Array Oper} {rest : List Oper} {o : Oper} {a : Act} {Q : Exit → Act → World → Prop} {K : Act → World → Prop}
/-- 'append(own, v)', v owned by its own blocks; a step of a region -/
theorem step_append_has {E : Prop} (hgd : o.guard = none) (s x : Operand) (hE : Elem P t e T bytes) {W : World} {g cc : Nat} {S Sy : List Nat} {A : Option Addr} {n c : Nat} {xs : List α} (h : Has (T.sl e) W [.slice A n c] xs S)
    {ec : List Value} {y : α} (hy : Has T W ec y Sy) (hd : ∀ b ∈ S, b ∉ Sy)
    (ho : o.op = .call { callee := .builtin .append, args := #[s, x], argTypes := #[t, t] }) (hs : a.eval s = .slice A n c) (hx : a.eval x = .slice (some ⟨g, 0, none⟩) 1 cc)
    (hcell : ∀ (j : Nat) (u : Value), ec[j]? = some u → W.cell? ⟨g, j, none⟩ = some u)
    {L : Nat} (hL : L = n + 1) (hb : L * bytes ≤ 140737488355328) (h63 : L ≤ 9223372036854775807)
    (hK : ∀ A' c'' W' S', OnlyS S W W' → Has (T.sl e) W' [.slice A' L c''] (xs ++ [y]) S' → (∀ b ∈ S', b ∈ S ∨ b ∈ Sy ∨ W.heap.size ≤ b) → K (a.put o.dst (.slice A' L c'')) W') : if Region.wanted o (yielded ops a.tmps) = true then Oper.wp P o a W K Q else E := by
  have hw : Region.wanted o (yielded ops a.tmps) = true := by simp [Region.wanted, hgd]
  rw [if_pos hw]
  obtain ⟨A', c'', W', S', hrun, hon, hF, hS'⟩ := run_append_set (P := P) (ty := o.type) hE h (ad := ⟨g, 0, none⟩) (m := 1) (c' := cc) (ys := [y]) (news := ec) (Sy := Sy) ⟨ec, [], Sy, [], by simp, by simp, hy.1, rfl, rfl⟩ rfl (fun j u hu => by rw [Addr.add_lit, Nat.zero_add]; exact hcell j u hu) hy.2 hd hL hb h63
  exact wp_of_run_append s x ho hs hx hrun (hK A' c'' W' S' hon hF hS')
theorem wpList_append_has (hgd : o.guard = none) (s x : Operand) (hE : Elem P t e T bytes) {W : World} {g cc : Nat} {S Sy : List Nat} {A : Option Addr} {n c : Nat} {xs : List α} (h : Has (T.sl e) W [.slice A n c] xs S)
    {ec : List Value} {y : α} (hy : Has T W ec y Sy) (hd : ∀ b ∈ S, b ∉ Sy)
    (ho : o.op = .call { callee := .builtin .append, args := #[s, x], argTypes := #[t, t] }) (hs : a.eval s = .slice A n c) (hx : a.eval x = .slice (some ⟨g, 0, none⟩) 1 cc)
    (hcell : ∀ (j : Nat) (u : Value), ec[j]? = some u → W.cell? ⟨g, j, none⟩ = some u)
    {L : Nat} (hL : L = n + 1) (hb : L * bytes ≤ 140737488355328) (h63 : L ≤ 9223372036854775807)
    (hK : ∀ A' c'' W' S', OnlyS S W W' → Has (T.sl e) W' [.slice A' L c''] (xs ++ [y]) S' → (∀ b ∈ S', b ∈ S ∨ b ∈ Sy ∨ W.heap.size ≤ b) → wpList P ops Q rest (a.put o.dst (.slice A' L c'')) W') : wpList P ops Q (o :: rest) a W :=
  wpList_plain hgd fun K hKK => by
    obtain ⟨A', c'', W', S', hrun, hon, hF, hS'⟩ := run_append_set (P := P) (ty := o.type) hE h (ad := ⟨g, 0, none⟩) (m := 1) (c' := cc) (ys := [y]) (news := ec) (Sy := Sy) ⟨ec, [], Sy, [], by simp, by simp, hy.1, rfl, rfl⟩ rfl (fun j u hu => by rw [Addr.add_lit, Nat.zero_add]; exact hcell j u hu) hy.2 hd hL hb h63
    exact wp_of_run_append s x ho hs hx hrun (hKK _ _ (hK A' c'' W' S' hon hF hS'))
/-- .. flat -/
theorem step_append_hasf {E : Prop} (hgd : o.guard = none) (s x : Operand) (hE : Elem P t e T bytes) (hf : Flat T) {W W1 : World} {B g cc : Nat} {S : List Nat} {A : Option Addr} {n c : Nat} {xs : List α} (h : Has (T.sl e) W [.slice A n c] xs S)
    {ec : List Value} {y : α} (hy : T.R W1 B ec y)
    (ho : o.op = .call { callee := .builtin .append, args := #[s, x], argTypes := #[t, t] }) (hs : a.eval s = .slice A n c) (hx : a.eval x = .slice (some ⟨g, 0, none⟩) 1 cc)
    (hcell : ∀ (j : Nat) (u : Value), ec[j]? = some u → W.cell? ⟨g, j, none⟩ = some u)
    {L : Nat} (hL : L = n + 1) (hb : L * bytes ≤ 140737488355328) (h63 : L ≤ 9223372036854775807)
    (hK : ∀ A' c'' W' S', OnlyS S W W' → Has (T.sl e) W' [.slice A' L c''] (xs ++ [y]) S' → (∀ b ∈ S', b ∈ S ∨ W.heap.size ≤ b) → K (a.put o.dst (.slice A' L c'')) W') : if Region.wanted o (yielded ops a.tmps) = true then Oper.wp P o a W K Q else E :=
  step_append_has hgd s x hE h (Sy := []) ⟨hf hy W, by simp⟩ (by simp) ho hs hx hcell hL hb h63 (fun A' c'' W' S' h1 h2 h3 => hK A' c'' W' S' h1 h2 (fun b hb => by have := h3 b hb; simpa using this))
theorem wpList_append_hasf (hgd : o.guard = none) (s x : Operand) (hE : Elem P t e T bytes) (hf : Flat T) {W W1 : World} {B g cc : Nat} {S : List Nat} {A : Option Addr} {n c : Nat} {xs : List α} (h : Has (T.sl e) W [.slice A n c] xs S)
    {ec : List Value} {y : α} (hy : T.R W1 B ec y)
    (ho : o.op = .call { callee := .builtin .append, args := #[s, x], argTypes := #[t, t] }) (hs : a.eval s = .slice A n c) (hx : a.eval x = .slice (some ⟨g, 0, none⟩) 1 cc)
    (hcell : ∀ (j : Nat) (u : Value), ec[j]? = some u → W.cell? ⟨g, j, none⟩ = some u)
    {L : Nat} (hL : L = n + 1) (hb : L * bytes ≤ 140737488355328) (h63 : L ≤ 9223372036854775807)
    (hK : ∀ A' c'' W' S', OnlyS S W W' → Has (T.sl e) W' [.slice A' L c''] (xs ++ [y]) S' → (∀ b ∈ S', b ∈ S ∨ W.heap.size ≤ b) → wpList P ops Q rest (a.put o.dst (.slice A' L c'')) W') : wpList P ops Q (o :: rest) a W :=
  wpList_append_has hgd s x hE h (Sy := []) ⟨hf hy W, by simp⟩ (by simp) ho hs hx hcell hL hb h63 (fun A' c'' W' S' h1 h2 h3 => hK A' c'' W' S' h1 h2 (fun b hb => by have := h3 b hb; simpa using this))
/-- 'append(own, list...)', flat -/
theorem run_append_hasl (hE : Elem P t e T bytes) (hf : Flat T) {ty : TypeId} {W : World} {S : List Nat} {A : Option Addr} {n c : Nat} {xs : List α} (h : Has (T.sl e) W [.slice A n c] xs S)
    {B : Nat} {e' : TypeId} {A2 : Option Addr} {m c2 : Nat} {ys : List α} (hy : (T.sl e').R W B [.slice A2 m c2] ys)
    {L : Nat} (hL : L = n + m) (hb : L * bytes ≤ 140737488355328) (h63 : L ≤ 9223372036854775807) :
    ∃ A' c'' W' S', (Builtin.append_ #[t, t] ty #[.slice A n c, .slice A2 m c2]).run P W = .ok (.slice A' L c'') W' ∧ OnlyS S W W' ∧ Has (T.sl e) W' [.slice A' L c''] (xs ++ ys) S' ∧ ∀ b ∈ S', b ∈ S ∨ W.heap.size ≤ b := by
  obtain ⟨A3, c3, hv, h1, h2, h3, h4⟩ := hy
  injection hv with hv _
  injection hv with hA hn hc
  subst hA hn hc
  rcases Nat.eq_zero_or_pos ys.length with h0 | h0
  · have hys : ys = [] := List.eq_nil_of_length_eq_zero h0
    subst hys
    subst hL
    cases A2 with
    | none => exact ⟨A, c, W, S, run_append_nil_has hE h _, OnlyS.refl _ _, by simpa using h, fun b hb => .inl hb⟩
    | some ad =>
      obtain ⟨A', c'', W', S', k1, k2, k3, k4⟩ := run_append_set (P := P) (ty := ty) hE h (ad := ad) (m := 0) (c' := c2) (news := []) (ys := []) (Sy := []) ⟨rfl, rfl⟩ rfl (fun j u hu => by simp at hu) (by simp) (by simp) rfl hb h63
      exact ⟨A', c'', W', S', k1, k2, k3, fun b hb => by have := k4 b hb; simpa using this⟩
  · obtain ⟨g, off, rfl, hgB, h5⟩ := h4 h0
    obtain ⟨cs, hr, hl, hc⟩ := rows_of_flat (w' := W) hf (g := g) (off := off) ys 0 (fun i x hx => by
      obtain ⟨ec, hR, hcc⟩ := h5 i x hx
      exact ⟨ec, hR, fun j u hu => by rw [Nat.zero_add]; exact hcc j u hu⟩)
    obtain ⟨A', c'', W', S', k1, k2, k3, k4⟩ := run_append_set (P := P) (ty := ty) hE h (ad := ⟨g, off, none⟩) hr rfl (fun j u hu => by rw [Addr.add_lit]; simpa using hc j u hu) (by simp) (by simp) hL hb h63
    exact ⟨A', c'', W', S', k1, k2, k3, fun b hb => by have := k4 b hb; simpa using this⟩
theorem step_append_hasl {E : Prop} (hgd : o.guard = none) (s x : Operand) (hE : Elem P t e T bytes) (hf : Flat T) {W : World} {S : List Nat} {A : Option Addr} {n c : Nat} {xs : List α} (h : Has (T.sl e) W [.slice A n c] xs S)
    {B : Nat} {e' : TypeId} {A2 : Option Addr} {m c2 : Nat} {ys : List α} (hy : (T.sl e').R W B [.slice A2 m c2] ys)
    (ho : o.op = .call { callee := .builtin .append, args := #[s, x], argTypes := #[t, t] }) (hs : a.eval s = .slice A n c) (hx : a.eval x = .slice A2 m c2)
    {L : Nat} (hL : L = n + m) (hb : L * bytes ≤ 140737488355328) (h63 : L ≤ 9223372036854775807)
    (hK : ∀ A' c'' W' S', OnlyS S W W' → Has (T.sl e) W' [.slice A' L c''] (xs ++ ys) S' → (∀ b ∈ S', b ∈ S ∨ W.heap.size ≤ b) → K (a.put o.dst (.slice A' L c'')) W') : if Region.wanted o (yielded ops a.tmps) = true then Oper.wp P o a W K Q else E := by
  have hw : Region.wanted o (yielded ops a.tmps) = true := by simp [Region.wanted, hgd]
  rw [if_pos hw]
  obtain ⟨A', c'', W', S', hrun, hon, hF, hS'⟩ := run_append_hasl (P := P) (ty := o.type) hE hf h hy hL hb h63
  exact wp_of_run_append s x ho hs hx hrun (hK A' c'' W' S' hon hF hS')
end
end Go.Proofs.Ytbhobjepjaeffaa
namespace Go.Proofs.Ytbhobjepjaeffaa
open Go.RowKit
/-- owned, no block twice, its blocks from lo to hi -/
def FrN {α : Type} (T : Ty α) (lo hi : Nat) (W : World) (cs : List Value) (x : α) : Prop := ∃ S, T.O W cs x S ∧ S.Nodup ∧ ∀ b ∈ S, lo ≤ b ∧ b < hi
/-- .. from lo to hi, or from n on -/
def Fr2N {α : Type} (T : Ty α) (lo hi n : Nat) (W : World) (cs : List Value) (x : α) : Prop := ∃ S, T.O W cs x S ∧ S.Nodup ∧ ∀ b ∈ S, (lo ≤ b ∧ b < hi) ∨ n ≤ b
section
variable {α : Type} {T : Ty α} {w w1 w2 : World} {lo hi n : Nat} {cs : List Value} {x : α}
theorem FrN.same (h : FrN T lo hi w1 cs x) (hs : Same lo hi w1 w2) : FrN T lo hi w2 cs x := by
  obtain ⟨S, h1, h2, h3⟩ := h
  exact ⟨S, T.keepO h1 (fun k hk => hs k (h3 k hk).1 (h3 k hk).2), h2, h3⟩
theorem FrN.gro (h : FrN T lo hi w1 cs x) (hg : Gro w1 w2) : FrN T lo hi w2 cs x := by
  obtain ⟨S, h1, h2, h3⟩ := h
  exact ⟨S, T.groO h1 hg, h2, h3⟩
theorem FrN.read (h : FrN T lo hi w1 cs x) : T.R w1 w1.heap.size cs x := by
  obtain ⟨S, h1, _, _⟩ := h
  exact T.read h1
theorem FrN.two (h : FrN T lo hi w1 cs x) : Fr2N T lo hi n w1 cs x := by
  obtain ⟨S, h1, h2, h3⟩ := h
  exact ⟨S, h1, h2, fun b hb => .inl (h3 b hb)⟩
theorem Fr2N.same (h : Fr2N T lo hi n w1 cs x) (hs : Same lo hi w1 w2) (ht : Same n w1.heap.size w1 w2) : Fr2N T lo hi n w2 cs x := by
  obtain ⟨S, h1, h2, h3⟩ := h
  refine ⟨S, T.keepO h1 (fun k hk => ?_), h2, h3⟩
  rcases h3 k hk with h | h
  · exact hs k h.1 h.2
  · exact ht k h (T.ltO h1 k hk)
theorem Fr2N.gro (h : Fr2N T lo hi n w1 cs x) (hg : Gro w1 w2) : Fr2N T lo hi n w2 cs x := by
  obtain ⟨S, h1, h2, h3⟩ := h
  exact ⟨S, T.groO h1 hg, h2, h3⟩
theorem Fr2N.read (h : Fr2N T lo hi n w1 cs x) : T.R w1 w1.heap.size cs x := by
  obtain ⟨S, h1, _, _⟩ := h
  exact T.read h1
theorem Fr2N.fresh (h : Fr2N T lo hi n w1 cs x) (h1 : w.heap.size ≤ lo) (h2 : w.heap.size ≤ n) : Fresh T w w1 cs x := by
  obtain ⟨S, h3, h4, h5⟩ := h
  exact ⟨S, h3, h4, fun b hb => by have := h5 b hb; omega⟩
theorem FrN.fresh (h : FrN T lo hi w1 cs x) (h1 : w.heap.size ≤ lo) : Fresh T w w1 cs x := by
  obtain ⟨S, h3, h4, h5⟩ := h
  exact ⟨S, h3, h4, fun b hb => by have := h5 b hb; omega⟩
end
section
variable {α : Type} {T : Ty α} {e : TypeId} {P : Program} {t : TypeId} {bytes : Nat} {ops : Array Oper} {o : Oper} {a : Act} {Q : Exit → Act → World → Prop} {K : Act → World → Prop}
end
end Go.Proofs.Ytbhobjepjaeffaa
namespace Go.Proofs.Ytbhobjepjaeffaa
open Go.RowKit
theorem cell_up {a b : World} (h : Gro a b) {p : Addr} {v : Value} (hp : a.cell? p = some v) : b.cell? p = some v := by
  obtain ⟨os, d, rfl⟩ := h
  exact gro_keeps hp os d
theorem OnlyS.below {S : List Nat} {a W W' : World} {lo : Nat} (h : OnlyS S a W) (hb : Below lo W W') (hl : a.heap.size ≤ lo) : OnlyS S a W' :=
  ⟨hb.os.trans h.os, hb.tape.trans h.tape, hb.output.trans h.output, Nat.le_trans h.size hb.size, fun i hi hn => (hb.block i (by omega)).trans (h.block i hi hn)⟩
theorem FrN.only {α : Type} {T : Ty α} {lo hi k : Nat} {a b : World} {cs : List Value} {x : α} (h : FrN T lo hi a cs x) (hs : OnlyS [k] a b) (hk : k < lo) : FrN T lo hi b cs x := by
  obtain ⟨S, h1, h2, h3⟩ := h
  exact ⟨S, T.keepO h1 (fun j hj => hs.block j (T.ltO h1 j hj) (by have := h3 j hj; simp; omega)), h2, h3⟩
section
variable {α : Type} {T : Ty α} {e : TypeId} {P : Program} {t : TypeId} {bytes : Nat} {ops : Array Oper} {rest : List Oper} {o : Oper} {a : Act} {Q : Exit → Act → World → Prop} {K : Act → World → Prop}
end
end Go.Proofs.Ytbhobjepjaeffaa
namespace Go.Proofs.Ytbhobjepjaeffaa
open Go.RowKit
theorem box2 {W : World} {g : Nat} {a b : Value} {e : TypeId} (h : W.heap[g]? = some (.cells #[a, b] e (0, 0))) :
    W.cell? ⟨g, 0, none⟩ = some a ∧ W.cell? ⟨g, 1, none⟩ = some b ∧ W.frozen? ⟨g, 0, none⟩ = false ∧ W.frozen? ⟨g, 1, none⟩ = false ∧ g < W.heap.size := by
  refine ⟨?_, ?_, by simp [World.frozen?, h], by simp [World.frozen?, h], (Array.getElem?_eq_some_iff.1 h).1⟩
  all_goals
    rw [cell_of_row W g _ _ _ (0, 0) h]
    rfl
theorem set2 {W : World} {g : Nat} {p q : Value} {e : TypeId} (h : W.heap[g]? = some (.cells #[p, q] e (0, 0))) (a b : Value) :
    ((W.setCell ⟨g, 0, none⟩ a).setCell ⟨g, 1, none⟩ b).heap[g]? = some (.cells #[a, b] e (0, 0)) ∧ OnlyS [g] W ((W.setCell ⟨g, 0, none⟩ a).setCell ⟨g, 1, none⟩ b) :=
  ⟨heap_setCell_at (heap_setCell_at h 0 a) 1 b, ((OnlyS.refl _ _).setCell (p := ⟨g, 0, none⟩) (by simp) a).setCell (p := ⟨g, 1, none⟩) (by simp) b⟩
theorem grow_blk {S Y : World} {k : Nat} {o : Obj} (h : S.heap[k]? = some o) (hG : Gro S Y) : Y.heap[k]? = some o :=
  (hG.block (Array.getElem?_eq_some_iff.1 h).1).trans h
end Go.Proofs.Ytbhobjepjaeffaa
namespace Go.Proofs.Ytbhobjepjaeffaa
open Go.RowKit
def RetOp (r : OpR) (w : World) (e : Ending) (w' : World) : Prop := e = .returned (.tuple #[.agg #[.int .i64 r.code, .int .i64 r.arg], .int .i64 r.n, .bool r.ok]) ∧ Gro w w'
theorem ret_op {r q : OpR} (h : r = q) {w w' : World} (hG : Gro w w') : RetOp r w (.returned (.tuple #[.agg #[.int .i64 q.code, .int .i64 q.arg], .int .i64 q.n, .bool q.ok])) w' := by
  subst h
  exact ⟨rfl, hG⟩
theorem or8_step {m j b : Nat} (hb : b < 256) (hj : j < 4) (hm : m < 256 ^ j) : bits .or .i64 (m : Int) (wrap64 ((b : Int) * 2 ^ (8 * j))) = ((m + b * 256 ^ j : Nat) : Int) := by
  have hp : 256 ^ (j + 1) ≤ 4294967296 := by
    have h := Nat.pow_le_pow_right (show 0 < 256 by omega) (show j + 1 ≤ 4 by omega)
    exact h
  have hmul : b * 256 ^ j ≤ 255 * 256 ^ j := Nat.mul_le_mul_right _ (by omega)
  have hs : (256 : Nat) ^ (j + 1) = 256 * 256 ^ j := by rw [Nat.pow_succ, Nat.mul_comm]
  have e0 : (2 : Int) ^ (8 * j) = ((256 ^ j : Nat) : Int) := by
    rw [Int.pow_mul, show (2 : Int) ^ 8 = ((256 : Nat) : Int) from by decide]
    exact (Int.natCast_pow 256 j).symm
  have e1 : ((b : Int) * 2 ^ (8 * j)) = ((b * 256 ^ j : Nat) : Int) := by rw [e0, ← Int.natCast_mul]
  have e2 : wrap64 ((b * 256 ^ j : Nat) : Int) = ((b * 256 ^ j : Nat) : Int) := wrap64_small (by omega) (by omega)
  rw [e1, e2, bits_or_comm, bits_join .i64 62 (by decide) wraps_i64 (8 * j) _ _ (by omega) (by rw [e0]; norm_cast; exact Nat.mul_mod_left _ _) (by norm_cast; omega) (by omega) (by rw [e0]; exact_mod_cast hm) (by norm_cast; omega)]
  omega
/-- the cell of a box of two set anew -/
theorem set2b {W : World} {g : Nat} {p q : Value} {e : TypeId} (h : W.heap[g]? = some (.cells #[p, q] e (0, 0))) (b : Value) : (W.setCell ⟨g, 1, none⟩ b).heap[g]? = some (.cells #[p, b] e (0, 0)) ∧ OnlyS [g] W (W.setCell ⟨g, 1, none⟩ b) :=
  ⟨heap_setCell_at h 1 b, (OnlyS.refl _ _).setCell (p := ⟨g, 1, none⟩) (by simp) b⟩
set_option maxRecDepth 100000 in
set_option maxHeartbeats 4000000 in
theorem decodeOp_i (s : ByteArray) (a : Int) (w : World) (hs : s.size ≤ 1099511627776) (ha : I64 a) : Calls Try.prog 131 #[.string s, .int .i64 a] w (RetOp (decOp s a) w) := by
  obtain ⟨ha1, ha2⟩ := ha
  cases hb : btw a 0 ((s.size : Int) - 1)
  · have HD := Lib.hid (decOp_no (s := s) (a := a) (fun h => by rw [btw_mk (by omega) (by omega)] at hb; cases hb))
    have HB := Lib.hid hb
    clear hb
    go_enter Try.func131, Try.ntmps131
    go_wp2_with (go_at_call 48; (with_reducible refine (in_i _ _ _ _).mono ?_); rw [HB.out]; rintro e w1 ⟨rfl, rfl⟩)
    exact bodyPost_ret (v := .tuple #[.agg #[.int .i64 0, .int .i64 0], .int .i64 0, .bool false]) (by simp [results, Try.results131, go_sem]) rfl (ret_op (q := ⟨0, 0, 0, false⟩) HD.out (by repeat (first | with_reducible exact Gro.refl _ | with_reducible exact Gro.refl_drew _ _ _ | with_reducible exact Gro.refl_drewN _ _ _ _ | assumption | with_reducible apply Gro.more | with_reducible apply Gro.alloc | with_reducible apply Gro.drew | with_reducible apply Gro.drewN)))
  · obtain ⟨hb1, hb2⟩ := btw_iff.1 hb
    have HB := Lib.hid hb
    clear hb
    obtain ⟨a, rfl⟩ := Int.eq_ofNat_of_zero_le hb1
    have hlt : a < s.size := by omega
    have hbn := byteN_get hlt
    obtain ⟨c, hc⟩ : ∃ c, byteN s a = c := ⟨_, rfl⟩
    have hc255 : c < 256 := hc ▸ byteN_lt s a
    rw [hc] at hbn
    have hx0 : 0 ≤ (s[a].toNat : Int) ∧ (s[a].toNat : Int) ≤ 255 := by omega
    by_cases hc17 : c ≤ 17
    case neg =>
      have HD := Lib.hid (decOp_no (s := s) (a := (a : Int)) (fun h => by rw [Int.toNat_natCast, hc] at h; exact hc17 h.2.2.1))
      have HZ := Lib.hid (show opSize (s[a].toNat : Int) = 0 from by rw [← hbn, opSize_def, if_neg (by simp [btw]; omega)])
      go_enter Try.func131, Try.ntmps131
      go_wp2_with (first
        | (go_at_call 48; (with_reducible refine (in_i _ _ _ _).mono ?_); rw [HB.out]; rintro e w1 ⟨rfl, rfl⟩)
        | (go_at_call 152; (with_reducible refine (opSize_i _ _).mono ?_); rw [HZ.out]; rintro e w1 ⟨rfl, rfl⟩))
      exact bodyPost_ret (v := .tuple #[.agg #[.int .i64 0, .int .i64 0], .int .i64 0, .bool false]) (by simp [results, Try.results131, go_sem]) rfl (ret_op (q := ⟨0, 0, 0, false⟩) HD.out (by repeat (first | with_reducible exact Gro.refl _ | with_reducible exact Gro.refl_drew _ _ _ | with_reducible exact Gro.refl_drewN _ _ _ _ | assumption | with_reducible apply Gro.more | with_reducible apply Gro.alloc | with_reducible apply Gro.drew | with_reducible apply Gro.drewN)))
    obtain ⟨n, sg, hw⟩ : ∃ n sg, opW (c : Int) = (n, sg) := ⟨_, _, rfl⟩
    have hcs := opW_cases (c : Int)
    rw [hw] at hcs
    have hn4 : n ≤ 4 := by have := opW_le (c : Int); rw [hw] at this; exact this
    have HZ := Lib.hid (show opSize (s[a].toNat : Int) = (n : Int) + 1 from by rw [← hbn, opSize_def, if_pos (btw_mk (by omega) (by omega)), hw])
    have HW := Lib.hid (show opW (s[a].toNat : Int) = (n, sg) from by rw [← hbn]; exact hw)
    by_cases hfit : a + 1 + n ≤ s.size
    case neg =>
      have HD := Lib.hid (decOp_no (s := s) (a := (a : Int)) (fun h => by rw [Int.toNat_natCast, hc, hw] at h; exact hfit h.2.2.2))
      have hg1 : ((n : Int) + 1 == 0) = false := by simp; omega
      have hg2 : decide ((s.size : Int) < (a : Int) + ((n : Int) + 1)) = true := decide_eq_true (by omega)
      clear hw hc hbn
      go_enter Try.func131, Try.ntmps131
      go_wp2_with (first
        | (go_at_call 48; (with_reducible refine (in_i _ _ _ _).mono ?_); rw [HB.out]; rintro e w1 ⟨rfl, rfl⟩)
        | (go_at_call 152; (with_reducible refine (opSize_i _ _).mono ?_); rw [HZ.out]; rintro e w1 ⟨rfl, rfl⟩))
      exact bodyPost_ret (v := .tuple #[.agg #[.int .i64 0, .int .i64 0], .int .i64 0, .bool false]) (by simp [results, Try.results131, go_sem]) rfl (ret_op (q := ⟨0, 0, 0, false⟩) HD.out (by repeat (first | with_reducible exact Gro.refl _ | with_reducible exact Gro.refl_drew _ _ _ | with_reducible exact Gro.refl_drewN _ _ _ _ | assumption | with_reducible apply Gro.more | with_reducible apply Gro.alloc | with_reducible apply Gro.drew | with_reducible apply Gro.drewN)))
    have HD := Lib.hid (decOp_yes hlt hc hc17 hw hfit)
    have hg1 : ((n : Int) + 1 == 0) = false := by simp; omega
    have hg2 : decide ((s.size : Int) < (a : Int) + ((n : Int) + 1)) = false := decide_eq_false (by omega)
    clear hw hc
    go_enter Try.func131, Try.ntmps131
    go_wp2_with (first
      | (go_at_call 48; (with_reducible refine (in_i _ _ _ _).mono ?_); rw [HB.out]; rintro e w1 ⟨rfl, rfl⟩)
      | (go_at_call 152; (with_reducible refine (opSize_i _ _).mono ?_); rw [HZ.out]; rintro e w1 ⟨rfl, rfl⟩)
      | (go_at_call 153; (with_reducible refine (argument_i _ _).mono ?_); rw [HW.out]; rintro e w1 ⟨rfl, rfl⟩))
    have hG : Gro w ((w.alloc (.cells #[.int .i64 0, .int .i64 0] 166)).alloc (.cells #[.int .i64 (s[a].toNat : Int), .int .i64 0] 166)) := (by repeat (first | with_reducible exact Gro.refl _ | with_reducible exact Gro.refl_drew _ _ _ | with_reducible exact Gro.refl_drewN _ _ _ _ | assumption | with_reducible apply Gro.more | with_reducible apply Gro.alloc | with_reducible apply Gro.drew | with_reducible apply Gro.drewN))
    have er : ((w.alloc (.cells #[.int .i64 0, .int .i64 0] 166)).alloc (.cells #[.int .i64 (s[a].toNat : Int), .int .i64 0] 166)).heap[w.heap.size]? = some (.cells #[.int .i64 0, .int .i64 0] 166 (0, 0)) := grow_blk (heap_alloc_new w _) (by (repeat (first | with_reducible exact Gro.refl _ | with_reducible exact Gro.refl_drew _ _ _ | with_reducible exact Gro.refl_drewN _ _ _ _ | assumption | with_reducible apply Gro.more | with_reducible apply Gro.alloc | with_reducible apply Gro.drew | with_reducible apply Gro.drewN)); done)
    have ex : ((w.alloc (.cells #[.int .i64 0, .int .i64 0] 166)).alloc (.cells #[.int .i64 (s[a].toNat : Int), .int .i64 0] 166)).heap[w.heap.size + 1]? = some (.cells #[.int .i64 (s[a].toNat : Int), .int .i64 0] 166 (0, 0)) := by
      have h := heap_alloc_new (w.alloc (.cells #[.int .i64 0, .int .i64 0] 166)) (.cells #[.int .i64 (s[a].toNat : Int), .int .i64 0] 166)
      rw [World.size_alloc] at h
      exact h
    obtain ⟨g, hg⟩ : ∃ g, w.heap.size = g := ⟨_, rfl⟩
    rw [hg] at er ex ⊢
    generalize ((w.alloc (.cells #[.int .i64 0, .int .i64 0] 166)).alloc (.cells #[.int .i64 (s[a].toNat : Int), .int .i64 0] 166)) = Y at hG er ex ⊢
    go_loopw [11] (fun x wr => ∃ (j : Nat), x = .int .i64 j ∧ j ≤ n ∧ Hid (wr.heap[g + 1]? = some (.cells #[.int .i64 (s[a].toNat : Int), .int .i64 (argU s (a + 1) j : Nat)] 166 (0, 0))) ∧ Hid (wr.heap[g]? = some (.cells #[.int .i64 0, .int .i64 0] 166 (0, 0))) ∧ Hid (Gro w wr)) (fun x _ => n - (intOf x).toNat)
    case atStart => exact ⟨0, rfl, by omega, Lib.hid ex, Lib.hid er, Lib.hid hG⟩
    case round =>
      clear hG er ex
      obtain ⟨j, rfl, hj, hx, hr, hG⟩ := hrel
      obtain ⟨x0, x1, xf0, xf1, xl⟩ := box2 hx.out
      by_cases hjn : j < n
      · have hin : a + 1 + j < s.size := by omega
        have hb := byteN_get hin
        have hb2 : 0 ≤ (s[a + 1 + j].toNat : Int) ∧ (s[a + 1 + j].toNat : Int) ≤ 255 := by have := s[a + 1 + j].toNat_lt; omega
        have hul := argU_lt s (a + 1) j
        have hor := or8_step (m := argU s (a + 1) j) (j := j) (b := s[a + 1 + j].toNat) (by omega) (by omega) hul
        have hun : argU s (a + 1) j + s[a + 1 + j].toNat * 256 ^ j = argU s (a + 1) (j + 1) := by rw [argU, hb]
        rw [hun] at hor
        have hul2 : argU s (a + 1) j < 4294967296 := Nat.lt_of_lt_of_le hul (Nat.pow_le_pow_right (by omega) (show j ≤ 4 by omega))
        obtain ⟨u, hu⟩ : ∃ u, argU s (a + 1) j = u := ⟨_, rfl⟩
        obtain ⟨v, hv⟩ : ∃ v, argU s (a + 1) (j + 1) = v := ⟨_, rfl⟩
        rw [hu] at hor x1 hul2
        rw [hv] at hor
        have HV := Lib.hid hv
        clear hul hun hb hu hv
        have hjn2 : (j : Int) < (n : Int) := by omega
        have w1 : IntKind.i64.wrap ((a : Int) + 1) = (a : Int) + 1 := IntWalk.i64_in _ (by omega)
        have w2 : IntKind.i64.wrap ((a : Int) + 1 + j) = (a : Int) + 1 + j := IntWalk.i64_in _ (by omega)
        have w3 : (0 : Int) ≤ (a : Int) + 1 + j := by omega
        have w4 : (a : Int) + 1 + j < s.size := by omega
        go_wp2_with (fail)
        go_region
        go_wp2_with (fail)
        have h2 := set2b hx.out (.int .i64 v)
        go_roundw
        case measure => (simp [intOf]; try omega)
        case rel => exact ⟨j + 1, by go_num, by omega, Lib.hid (by rw [HV.out]; exact h2.1), Lib.hid ((h2.2.block g (by omega) (by simp)).trans hr.out), Lib.hid ((h2.2.gro hG.out (fun b hb => by simp at hb; omega)).drew)⟩
      · obtain rfl : j = n := by omega
        have hul := argU_lt s (a + 1) j
        obtain ⟨u, hu⟩ : ∃ u, argU s (a + 1) j = u := ⟨_, rfl⟩
        rw [hu] at hul x1 HD
        have h0 := hr.out
        have hxo := hx.out
        rw [hu] at hxo
        clear hx hr
        obtain ⟨r0, r1, rf0, rf1, rl⟩ := box2 h0
        have hsg : (sg = true ∧ 2 ^ (8 * j - 1) ≤ u) ∨ ¬ (sg = true ∧ 2 ^ (8 * j - 1) ≤ u) := Classical.em _
        clear hu HB HZ HW hfit hg1 hg2
        rcases hsg with hsg | hsg
        · have hdd : decOp s (a : Int) = ⟨(c : Int), (u : Int) - 2 ^ (8 * j), j + 1, true⟩ := by rw [HD.out]; unfold argS; rw [if_pos hsg]
          have HQ := Lib.hid hdd
          obtain ⟨rfl, hsg⟩ := hsg
          clear hdd HD
          simp only [Prod.mk.injEq, Bool.true_eq_false, and_true, and_false, or_false, false_or] at hcs
          rcases hcs with rfl | rfl
          · skip
            have hge : (2147483648 : Int) ≤ (u : Int) := by simp at hsg; omega
            have hul3 : (u : Int) < 4294967296 := by simp at hul; omega
            have hw1 : IntKind.i64.wrap ((u : Int) - 4294967296) = (u : Int) - 4294967296 := IntWalk.i64_in _ ⟨by omega, by omega⟩
            clear hul hsg
            go_wp2_with (fail)
            go_region
            go_wp2_with (fail)
            go_region
            go_wp2_with (fail)
            have hk := set2b hxo (.int .i64 ((u : Int) - 4294967296))
            have h1 := (hk.2.block g (by omega) (by simp)).trans h0
            have h2 := set2 h1 (.int .i64 (s[a].toNat : Int)) (.int .i64 ((u : Int) - 4294967296))
            have hz := box2 h2.1
            refine bodyPost_ret (v := .tuple #[.agg #[.int .i64 (s[a].toNat : Int), .int .i64 ((u : Int) - 4294967296)], .int .i64 ((4 + 1 : Nat) : Int), .bool true]) (by simp [results, Try.results131, go_sem, hz, rl]) rfl ?_
            exact ret_op (q := ⟨(s[a].toNat : Int), (u : Int) - 4294967296, 4 + 1, true⟩) (by rw [HQ.out, hbn]; try rfl) ((h2.2.gro (hk.2.gro hG.out (fun b hb => by simp at hb; omega)) (fun b hb => by simp at hb; omega)).trans (by (repeat (first | with_reducible exact Gro.refl _ | with_reducible exact Gro.refl_drew _ _ _ | with_reducible exact Gro.refl_drewN _ _ _ _ | assumption | with_reducible apply Gro.more | with_reducible apply Gro.alloc | with_reducible apply Gro.drew | with_reducible apply Gro.drewN)); done))
          · skip
            have hge : (32768 : Int) ≤ (u : Int) := by simp at hsg; omega
            have hul3 : (u : Int) < 65536 := by simp at hul; omega
            have hw1 : IntKind.i64.wrap ((u : Int) - 65536) = (u : Int) - 65536 := IntWalk.i64_in _ ⟨by omega, by omega⟩
            clear hul hsg
            go_wp2_with (fail)
            go_region
            go_wp2_with (fail)
            go_region
            go_wp2_with (fail)
            have hk := set2b hxo (.int .i64 ((u : Int) - 65536))
            have h1 := (hk.2.block g (by omega) (by simp)).trans h0
            have h2 := set2 h1 (.int .i64 (s[a].toNat : Int)) (.int .i64 ((u : Int) - 65536))
            have hz := box2 h2.1
            refine bodyPost_ret (v := .tuple #[.agg #[.int .i64 (s[a].toNat : Int), .int .i64 ((u : Int) - 65536)], .int .i64 ((2 + 1 : Nat) : Int), .bool true]) (by simp [results, Try.results131, go_sem, hz, rl]) rfl ?_
            exact ret_op (q := ⟨(s[a].toNat : Int), (u : Int) - 65536, 2 + 1, true⟩) (by rw [HQ.out, hbn]; try rfl) ((h2.2.gro (hk.2.gro hG.out (fun b hb => by simp at hb; omega)) (fun b hb => by simp at hb; omega)).trans (by (repeat (first | with_reducible exact Gro.refl _ | with_reducible exact Gro.refl_drew _ _ _ | with_reducible exact Gro.refl_drewN _ _ _ _ | assumption | with_reducible apply Gro.more | with_reducible apply Gro.alloc | with_reducible apply Gro.drew | with_reducible apply Gro.drewN)); done))
        · have hdd : decOp s (a : Int) = ⟨(c : Int), (u : Int), j + 1, true⟩ := by rw [HD.out]; unfold argS; rw [if_neg hsg]
          have HQ := Lib.hid hdd
          clear hdd HD
          cases sg with
          | false =>
            clear hsg hcs hul
            go_wp2_with (fail)
            go_region
            go_wp2_with (fail)
            have h2 := set2 h0 (.int .i64 (s[a].toNat : Int)) (.int .i64 ((u : Int)))
            have hz := box2 h2.1
            refine bodyPost_ret (v := .tuple #[.agg #[.int .i64 (s[a].toNat : Int), .int .i64 ((u : Int))], .int .i64 ((j + 1 : Nat) : Int), .bool true]) (by simp [results, Try.results131, go_sem, hz, rl]) rfl ?_
            exact ret_op (q := ⟨(s[a].toNat : Int), (u : Int), j + 1, true⟩) (by rw [HQ.out, hbn]; try rfl) ((h2.2.gro hG.out (fun b hb => by simp at hb; omega)).trans (by (repeat (first | with_reducible exact Gro.refl _ | with_reducible exact Gro.refl_drew _ _ _ | with_reducible exact Gro.refl_drewN _ _ _ _ | assumption | with_reducible apply Gro.more | with_reducible apply Gro.alloc | with_reducible apply Gro.drew | with_reducible apply Gro.drewN)); done))
          | true =>
            have hlt2 : ¬ 2 ^ (8 * j - 1) ≤ u := fun h => hsg ⟨rfl, h⟩
            simp only [Prod.mk.injEq, Bool.true_eq_false, and_true, and_false, or_false, false_or] at hcs
            rcases hcs with rfl | rfl
            · have hge : decide ((2147483648 : Int) ≤ (u : Int)) = false := decide_eq_false (by simp at hlt2; omega)
              clear hsg hlt2 hul
              go_wp2_with (fail)
              go_region
              go_wp2_with (fail)
              have h2 := set2 h0 (.int .i64 (s[a].toNat : Int)) (.int .i64 ((u : Int)))
              have hz := box2 h2.1
              refine bodyPost_ret (v := .tuple #[.agg #[.int .i64 (s[a].toNat : Int), .int .i64 ((u : Int))], .int .i64 ((4 + 1 : Nat) : Int), .bool true]) (by simp [results, Try.results131, go_sem, hz, rl]) rfl ?_
              exact ret_op (q := ⟨(s[a].toNat : Int), (u : Int), 4 + 1, true⟩) (by rw [HQ.out, hbn]; try rfl) ((h2.2.gro hG.out (fun b hb => by simp at hb; omega)).trans (by (repeat (first | with_reducible exact Gro.refl _ | with_reducible exact Gro.refl_drew _ _ _ | with_reducible exact Gro.refl_drewN _ _ _ _ | assumption | with_reducible apply Gro.more | with_reducible apply Gro.alloc | with_reducible apply Gro.drew | with_reducible apply Gro.drewN)); done))
            · have hge : decide ((32768 : Int) ≤ (u : Int)) = false := decide_eq_false (by simp at hlt2; omega)
              clear hsg hlt2 hul
              go_wp2_with (fail)
              go_region
              go_wp2_with (fail)
              have h2 := set2 h0 (.int .i64 (s[a].toNat : Int)) (.int .i64 ((u : Int)))
              have hz := box2 h2.1
              refine bodyPost_ret (v := .tuple #[.agg #[.int .i64 (s[a].toNat : Int), .int .i64 ((u : Int))], .int .i64 ((2 + 1 : Nat) : Int), .bool true]) (by simp [results, Try.results131, go_sem, hz, rl]) rfl ?_
              exact ret_op (q := ⟨(s[a].toNat : Int), (u : Int), 2 + 1, true⟩) (by rw [HQ.out, hbn]; try rfl) ((h2.2.gro hG.out (fun b hb => by simp at hb; omega)).trans (by (repeat (first | with_reducible exact Gro.refl _ | with_reducible exact Gro.refl_drew _ _ _ | with_reducible exact Gro.refl_drewN _ _ _ _ | assumption | with_reducible apply Gro.more | with_reducible apply Gro.alloc | with_reducible apply Gro.drew | with_reducible apply Gro.drewN)); done))
end Go.Proofs.Ytbhobjepjaeffaa
namespace Go.Proofs.Ytbhobjepjaeffaa
open Go.RowKit
theorem add8_step {m j b : Nat} (hb : b < 256) (hj : j < 4) (hm : m < 256 ^ j) : IntKind.i64.wrap ((m : Int) + wrap64 ((b : Int) * 2 ^ (8 * j))) = ((m + b * 256 ^ j : Nat) : Int) := by
  have hp : 256 ^ (j + 1) ≤ 4294967296 := by
    have h := Nat.pow_le_pow_right (show 0 < 256 by omega) (show j + 1 ≤ 4 by omega)
    exact h
  have hmul : b * 256 ^ j ≤ 255 * 256 ^ j := Nat.mul_le_mul_right _ (by omega)
  have hs : (256 : Nat) ^ (j + 1) = 256 * 256 ^ j := by rw [Nat.pow_succ, Nat.mul_comm]
  have e0 : (2 : Int) ^ (8 * j) = ((256 ^ j : Nat) : Int) := by
    rw [Int.pow_mul, show (2 : Int) ^ 8 = ((256 : Nat) : Int) from by decide]
    exact (Int.natCast_pow 256 j).symm
  have e1 : ((b : Int) * 2 ^ (8 * j)) = ((b * 256 ^ j : Nat) : Int) := by rw [e0, ← Int.natCast_mul]
  rw [e1, wrap64_small (by omega) (by omega), ← Int.natCast_add]
  exact IntWalk.i64_in _ ⟨by omega, by omega⟩
set_option maxRecDepth 100000 in
set_option maxHeartbeats 4000000 in
theorem decodeOp_s (s : ByteArray) (a : Int) (w : World) (hs : s.size ≤ 1099511627776) (ha : I64 a) : Calls Try.prog 134 #[.string s, .int .i64 a] w (RetOp (decOp s a) w) := by
  obtain ⟨ha1, ha2⟩ := ha
  cases hb : btw a 0 ((s.size : Int) - 1)
  · have HD := Lib.hid (decOp_no (s := s) (a := a) (fun h => by rw [btw_mk (by omega) (by omega)] at hb; cases hb))
    have hout : a < 0 ∨ (0 ≤ a ∧ (s.size : Int) ≤ a) := by
      rcases Int.lt_or_le a 0 with h | h
      · exact .inl h
      · refine .inr ⟨h, ?_⟩
        have : ¬ a ≤ (s.size : Int) - 1 := fun h2 => by rw [btw_mk h h2] at hb; cases hb
        omega
    clear hb
    rcases hout with h | ⟨h, h'⟩
    · have q0 : decide (a < 0) = true := decide_eq_true h
      go_enter Try.func134, Try.ntmps134
      go_wp2_with (fail)
      exact bodyPost_ret (v := .tuple #[.agg #[.int .i64 0, .int .i64 0], .int .i64 0, .bool false]) (by simp [results, Try.results134, go_sem]) rfl (ret_op (q := ⟨0, 0, 0, false⟩) HD.out (by repeat (first | with_reducible exact Gro.refl _ | with_reducible exact Gro.refl_drew _ _ _ | with_reducible exact Gro.refl_drewN _ _ _ _ | assumption | with_reducible apply Gro.more | with_reducible apply Gro.alloc | with_reducible apply Gro.drew | with_reducible apply Gro.drewN)))
    · have q0 : decide (a < 0) = false := decide_eq_false (by omega)
      have q1 : decide ((s.size : Int) ≤ a) = true := decide_eq_true h'
      go_enter Try.func134, Try.ntmps134
      go_wp2_with (fail)
      exact bodyPost_ret (v := .tuple #[.agg #[.int .i64 0, .int .i64 0], .int .i64 0, .bool false]) (by simp [results, Try.results134, go_sem]) rfl (ret_op (q := ⟨0, 0, 0, false⟩) HD.out (by repeat (first | with_reducible exact Gro.refl _ | with_reducible exact Gro.refl_drew _ _ _ | with_reducible exact Gro.refl_drewN _ _ _ _ | assumption | with_reducible apply Gro.more | with_reducible apply Gro.alloc | with_reducible apply Gro.drew | with_reducible apply Gro.drewN)))
  · obtain ⟨hb1, hb2⟩ := btw_iff.1 hb
    clear hb
    obtain ⟨a, rfl⟩ := Int.eq_ofNat_of_zero_le hb1
    have q0 : decide ((a : Int) < 0) = false := decide_eq_false (by omega)
    have q1 : decide ((s.size : Int) ≤ (a : Int)) = false := decide_eq_false (by omega)
    have hlt : a < s.size := by omega
    have hbn := byteN_get hlt
    obtain ⟨c, hc⟩ : ∃ c, byteN s a = c := ⟨_, rfl⟩
    have hc255 : c < 256 := hc ▸ byteN_lt s a
    rw [hc] at hbn
    have hx0 : 0 ≤ (s[a].toNat : Int) ∧ (s[a].toNat : Int) ≤ 255 := by omega
    by_cases hc17 : c ≤ 17
    case neg =>
      have HD := Lib.hid (decOp_no (s := s) (a := (a : Int)) (fun h => by rw [Int.toNat_natCast, hc] at h; exact hc17 h.2.2.1))
      have HZ := Lib.hid (show opSize (s[a].toNat : Int) = 0 from by rw [← hbn, opSize_def, if_neg (by simp [btw]; omega)])
      obtain ⟨n, sg, hw⟩ : ∃ n sg, opW (s[a].toNat : Int) = (n, sg) := ⟨_, _, rfl⟩
      have hn4 : n ≤ 4 := by have := opW_le (s[a].toNat : Int); rw [hw] at this; exact this
      have HW := Lib.hid hw
      clear hw
      go_enter Try.func134, Try.ntmps134
      go_wp2_with (first
        | (go_at_call 162; (with_reducible refine (opSize_s _ _).mono ?_); rw [HZ.out]; rintro e w1 ⟨rfl, rfl⟩)
        | (go_at_call 161; (with_reducible refine (width_s _ _).mono ?_); rw [HW.out]; rintro e w1 ⟨rfl, rfl⟩))
      exact bodyPost_ret (v := .tuple #[.agg #[.int .i64 0, .int .i64 0], .int .i64 0, .bool false]) (by simp [results, Try.results134, go_sem]) rfl (ret_op (q := ⟨0, 0, 0, false⟩) HD.out (by repeat (first | with_reducible exact Gro.refl _ | with_reducible exact Gro.refl_drew _ _ _ | with_reducible exact Gro.refl_drewN _ _ _ _ | assumption | with_reducible apply Gro.more | with_reducible apply Gro.alloc | with_reducible apply Gro.drew | with_reducible apply Gro.drewN)))
    obtain ⟨n, sg, hw⟩ : ∃ n sg, opW (c : Int) = (n, sg) := ⟨_, _, rfl⟩
    have hcs := opW_cases (c : Int)
    rw [hw] at hcs
    have hn4 : n ≤ 4 := by have := opW_le (c : Int); rw [hw] at this; exact this
    have HZ := Lib.hid (show opSize (s[a].toNat : Int) = (n : Int) + 1 from by rw [← hbn, opSize_def, if_pos (btw_mk (by omega) (by omega)), hw])
    have HW := Lib.hid (show opW (s[a].toNat : Int) = (n, sg) from by rw [← hbn]; exact hw)
    by_cases hfit : a + 1 + n ≤ s.size
    case neg =>
      have HD := Lib.hid (decOp_no (s := s) (a := (a : Int)) (fun h => by rw [Int.toNat_natCast, hc, hw] at h; exact hfit h.2.2.2))
      have hg1 : ((n : Int) + 1 == 0) = false := by simp; omega
      have hg2 : decide ((s.size : Int) < (a : Int) + 1 + (n : Int)) = true := decide_eq_true (by omega)
      clear hw hc hbn
      go_enter Try.func134, Try.ntmps134
      go_wp2_with (first
        | (go_at_call 162; (with_reducible refine (opSize_s _ _).mono ?_); rw [HZ.out]; rintro e w1 ⟨rfl, rfl⟩)
        | (go_at_call 161; (with_reducible refine (width_s _ _).mono ?_); rw [HW.out]; rintro e w1 ⟨rfl, rfl⟩))
      exact bodyPost_ret (v := .tuple #[.agg #[.int .i64 0, .int .i64 0], .int .i64 0, .bool false]) (by simp [results, Try.results134, go_sem]) rfl (ret_op (q := ⟨0, 0, 0, false⟩) HD.out (by repeat (first | with_reducible exact Gro.refl _ | with_reducible exact Gro.refl_drew _ _ _ | with_reducible exact Gro.refl_drewN _ _ _ _ | assumption | with_reducible apply Gro.more | with_reducible apply Gro.alloc | with_reducible apply Gro.drew | with_reducible apply Gro.drewN)))
    have HD := Lib.hid (decOp_yes hlt hc hc17 hw hfit)
    have hg1 : ((n : Int) + 1 == 0) = false := by simp; omega
    have hg2 : decide ((s.size : Int) < (a : Int) + 1 + (n : Int)) = false := decide_eq_false (by omega)
    clear hw hc
    go_enter Try.func134, Try.ntmps134
    go_wp2_with (first
      | (go_at_call 162; (with_reducible refine (opSize_s _ _).mono ?_); rw [HZ.out]; rintro e w1 ⟨rfl, rfl⟩)
      | (go_at_call 161; (with_reducible refine (width_s _ _).mono ?_); rw [HW.out]; rintro e w1 ⟨rfl, rfl⟩))
    have hG : Gro w ((w.alloc (.cells #[.int .i64 0, .int .i64 0] 166)).alloc (.cells #[.int .i64 (s[a].toNat : Int), .int .i64 0] 166)) := (by repeat (first | with_reducible exact Gro.refl _ | with_reducible exact Gro.refl_drew _ _ _ | with_reducible exact Gro.refl_drewN _ _ _ _ | assumption | with_reducible apply Gro.more | with_reducible apply Gro.alloc | with_reducible apply Gro.drew | with_reducible apply Gro.drewN))
    have er : ((w.alloc (.cells #[.int .i64 0, .int .i64 0] 166)).alloc (.cells #[.int .i64 (s[a].toNat : Int), .int .i64 0] 166)).heap[w.heap.size]? = some (.cells #[.int .i64 0, .int .i64 0] 166 (0, 0)) := grow_blk (heap_alloc_new w _) (by (repeat (first | with_reducible exact Gro.refl _ | with_reducible exact Gro.refl_drew _ _ _ | with_reducible exact Gro.refl_drewN _ _ _ _ | assumption | with_reducible apply Gro.more | with_reducible apply Gro.alloc | with_reducible apply Gro.drew | with_reducible apply Gro.drewN)); done)
    have ex : ((w.alloc (.cells #[.int .i64 0, .int .i64 0] 166)).alloc (.cells #[.int .i64 (s[a].toNat : Int), .int .i64 0] 166)).heap[w.heap.size + 1]? = some (.cells #[.int .i64 (s[a].toNat : Int), .int .i64 0] 166 (0, 0)) := by
      have h := heap_alloc_new (w.alloc (.cells #[.int .i64 0, .int .i64 0] 166)) (.cells #[.int .i64 (s[a].toNat : Int), .int .i64 0] 166)
      rw [World.size_alloc] at h
      exact h
    obtain ⟨g, hg⟩ : ∃ g, w.heap.size = g := ⟨_, rfl⟩
    rw [hg] at er ex ⊢
    generalize ((w.alloc (.cells #[.int .i64 0, .int .i64 0] 166)).alloc (.cells #[.int .i64 (s[a].toNat : Int), .int .i64 0] 166)) = Y at hG er ex ⊢
    go_loopw [10] (fun x wr => ∃ (j : Nat), x = .int .i64 j ∧ j ≤ n ∧ Hid (wr.heap[g + 1]? = some (.cells #[.int .i64 (s[a].toNat : Int), .int .i64 (argU s (a + 1) j : Nat)] 166 (0, 0))) ∧ Hid (wr.heap[g]? = some (.cells #[.int .i64 0, .int .i64 0] 166 (0, 0))) ∧ Hid (Gro w wr)) (fun x _ => n - (intOf x).toNat)
    case atStart => exact ⟨0, rfl, by omega, Lib.hid ex, Lib.hid er, Lib.hid hG⟩
    case round =>
      clear hG er ex
      obtain ⟨j, rfl, hj, hx, hr, hG⟩ := hrel
      obtain ⟨x0, x1, xf0, xf1, xl⟩ := box2 hx.out
      by_cases hjn : j < n
      · have hin : a + 1 + j < s.size := by omega
        have hb := byteN_get hin
        have hb2 : 0 ≤ (s[a + 1 + j].toNat : Int) ∧ (s[a + 1 + j].toNat : Int) ≤ 255 := by have := s[a + 1 + j].toNat_lt; omega
        have hul := argU_lt s (a + 1) j
        have hor := add8_step (m := argU s (a + 1) j) (j := j) (b := s[a + 1 + j].toNat) (by omega) (by omega) hul
        have hun : argU s (a + 1) j + s[a + 1 + j].toNat * 256 ^ j = argU s (a + 1) (j + 1) := by rw [argU, hb]
        rw [hun] at hor
        have hul2 : argU s (a + 1) j < 4294967296 := Nat.lt_of_lt_of_le hul (Nat.pow_le_pow_right (by omega) (show j ≤ 4 by omega))
        obtain ⟨u, hu⟩ : ∃ u, argU s (a + 1) j = u := ⟨_, rfl⟩
        obtain ⟨v, hv⟩ : ∃ v, argU s (a + 1) (j + 1) = v := ⟨_, rfl⟩
        rw [hu] at hor x1 hul2
        rw [hv] at hor
        have HV := Lib.hid hv
        clear hul hun hb hu hv
        have hjn2 : (j : Int) < (n : Int) := by omega
        have w1 : IntKind.i64.wrap ((a : Int) + 1) = (a : Int) + 1 := IntWalk.i64_in _ (by omega)
        have w2 : IntKind.i64.wrap ((a : Int) + 1 + j) = (a : Int) + 1 + j := IntWalk.i64_in _ (by omega)
        have w3 : (0 : Int) ≤ (a : Int) + 1 + j := by omega
        have w4 : (a : Int) + 1 + j < s.size := by omega
        go_wp2_with (fail)
        go_region
        go_wp2_with (fail)
        have h2 := set2b hx.out (.int .i64 v)
        go_roundw
        case measure => (simp [intOf]; try omega)
        case rel => exact ⟨j + 1, by go_num, by omega, Lib.hid (by rw [HV.out]; exact h2.1), Lib.hid ((h2.2.block g (by omega) (by simp)).trans hr.out), Lib.hid ((h2.2.gro hG.out (fun b hb => by simp at hb; omega)).drew)⟩
      · obtain rfl : j = n := by omega
        have hul := argU_lt s (a + 1) j
        obtain ⟨u, hu⟩ : ∃ u, argU s (a + 1) j = u := ⟨_, rfl⟩
        rw [hu] at hul x1 HD
        have h0 := hr.out
        have hxo := hx.out
        rw [hu] at hxo
        clear hx hr
        obtain ⟨r0, r1, rf0, rf1, rl⟩ := box2 h0
        have hsg : (sg = true ∧ 2 ^ (8 * j - 1) ≤ u) ∨ ¬ (sg = true ∧ 2 ^ (8 * j - 1) ≤ u) := Classical.em _
        clear hu HZ HW hfit hg1 hg2
        rcases hsg with hsg | hsg
        · have hdd : decOp s (a : Int) = ⟨(c : Int), (u : Int) - 2 ^ (8 * j), j + 1, true⟩ := by rw [HD.out]; unfold argS; rw [if_pos hsg]
          have HQ := Lib.hid hdd
          obtain ⟨rfl, hsg⟩ := hsg
          clear hdd HD
          simp only [Prod.mk.injEq, Bool.true_eq_false, and_true, and_false, or_false, false_or] at hcs
          rcases hcs with rfl | rfl
          · skip
            have hge : (2147483648 : Int) ≤ (u : Int) := by simp at hsg; omega
            have hul3 : (u : Int) < 4294967296 := by simp at hul; omega
            have hw1 : IntKind.i64.wrap ((u : Int) - 4294967296) = (u : Int) - 4294967296 := IntWalk.i64_in _ ⟨by omega, by omega⟩
            clear hul hsg
            go_wp2_with (fail)
            go_region
            go_wp2_with (fail)
            go_region
            go_wp2_with (fail)
            have hk := set2b hxo (.int .i64 ((u : Int) - 4294967296))
            have h1 := (hk.2.block g (by omega) (by simp)).trans h0
            have h2 := set2 h1 (.int .i64 (s[a].toNat : Int)) (.int .i64 ((u : Int) - 4294967296))
            have hz := box2 h2.1
            refine bodyPost_ret (v := .tuple #[.agg #[.int .i64 (s[a].toNat : Int), .int .i64 ((u : Int) - 4294967296)], .int .i64 ((1 + 4 : Nat) : Int), .bool true]) (by simp [results, Try.results134, go_sem, hz, rl]) rfl ?_
            exact ret_op (q := ⟨(s[a].toNat : Int), (u : Int) - 4294967296, 1 + 4, true⟩) (by rw [HQ.out, hbn]; try (first | rfl | rw [Nat.add_comm])) ((h2.2.gro (hk.2.gro hG.out (fun b hb => by simp at hb; omega)) (fun b hb => by simp at hb; omega)).trans (by (repeat (first | with_reducible exact Gro.refl _ | with_reducible exact Gro.refl_drew _ _ _ | with_reducible exact Gro.refl_drewN _ _ _ _ | assumption | with_reducible apply Gro.more | with_reducible apply Gro.alloc | with_reducible apply Gro.drew | with_reducible apply Gro.drewN)); done))
          · skip
            have hge : (32768 : Int) ≤ (u : Int) := by simp at hsg; omega
            have hul3 : (u : Int) < 65536 := by simp at hul; omega
            have hw1 : IntKind.i64.wrap ((u : Int) - 65536) = (u : Int) - 65536 := IntWalk.i64_in _ ⟨by omega, by omega⟩
            clear hul hsg
            go_wp2_with (fail)
            go_region
            go_wp2_with (fail)
            go_region
            go_wp2_with (fail)
            have hk := set2b hxo (.int .i64 ((u : Int) - 65536))
            have h1 := (hk.2.block g (by omega) (by simp)).trans h0
            have h2 := set2 h1 (.int .i64 (s[a].toNat : Int)) (.int .i64 ((u : Int) - 65536))
            have hz := box2 h2.1
            refine bodyPost_ret (v := .tuple #[.agg #[.int .i64 (s[a].toNat : Int), .int .i64 ((u : Int) - 65536)], .int .i64 ((1 + 2 : Nat) : Int), .bool true]) (by simp [results, Try.results134, go_sem, hz, rl]) rfl ?_
            exact ret_op (q := ⟨(s[a].toNat : Int), (u : Int) - 65536, 1 + 2, true⟩) (by rw [HQ.out, hbn]; try (first | rfl | rw [Nat.add_comm])) ((h2.2.gro (hk.2.gro hG.out (fun b hb => by simp at hb; omega)) (fun b hb => by simp at hb; omega)).trans (by (repeat (first | with_reducible exact Gro.refl _ | with_reducible exact Gro.refl_drew _ _ _ | with_reducible exact Gro.refl_drewN _ _ _ _ | assumption | with_reducible apply Gro.more | with_reducible apply Gro.alloc | with_reducible apply Gro.drew | with_reducible apply Gro.drewN)); done))
        · have hdd : decOp s (a : Int) = ⟨(c : Int), (u : Int), j + 1, true⟩ := by rw [HD.out]; unfold argS; rw [if_neg hsg]
          have HQ := Lib.hid hdd
          clear hdd HD
          cases sg with
          | false =>
            clear hsg hcs hul
            go_wp2_with (fail)
            go_region
            go_wp2_with (fail)
            have h2 := set2 h0 (.int .i64 (s[a].toNat : Int)) (.int .i64 ((u : Int)))
            have hz := box2 h2.1
            refine bodyPost_ret (v := .tuple #[.agg #[.int .i64 (s[a].toNat : Int), .int .i64 ((u : Int))], .int .i64 ((1 + j : Nat) : Int), .bool true]) (by simp [results, Try.results134, go_sem, hz, rl]) rfl ?_
            exact ret_op (q := ⟨(s[a].toNat : Int), (u : Int), 1 + j, true⟩) (by rw [HQ.out, hbn]; try (first | rfl | rw [Nat.add_comm])) ((h2.2.gro hG.out (fun b hb => by simp at hb; omega)).trans (by (repeat (first | with_reducible exact Gro.refl _ | with_reducible exact Gro.refl_drew _ _ _ | with_reducible exact Gro.refl_drewN _ _ _ _ | assumption | with_reducible apply Gro.more | with_reducible apply Gro.alloc | with_reducible apply Gro.drew | with_reducible apply Gro.drewN)); done))
          | true =>
            have hlt2 : ¬ 2 ^ (8 * j - 1) ≤ u := fun h => hsg ⟨rfl, h⟩
            simp only [Prod.mk.injEq, Bool.true_eq_false, and_true, and_false, or_false, false_or] at hcs
            rcases hcs with rfl | rfl
            · have hge : decide ((2147483648 : Int) ≤ (u : Int)) = false := decide_eq_false (by simp at hlt2; omega)
              clear hsg hlt2 hul
              go_wp2_with (fail)
              go_region
              go_wp2_with (fail)
              have h2 := set2 h0 (.int .i64 (s[a].toNat : Int)) (.int .i64 ((u : Int)))
              have hz := box2 h2.1
              refine bodyPost_ret (v := .tuple #[.agg #[.int .i64 (s[a].toNat : Int), .int .i64 ((u : Int))], .int .i64 ((1 + 4 : Nat) : Int), .bool true]) (by simp [results, Try.results134, go_sem, hz, rl]) rfl ?_
              exact ret_op (q := ⟨(s[a].toNat : Int), (u : Int), 1 + 4, true⟩) (by rw [HQ.out, hbn]; try (first | rfl | rw [Nat.add_comm])) ((h2.2.gro hG.out (fun b hb => by simp at hb; omega)).trans (by (repeat (first | with_reducible exact Gro.refl _ | with_reducible exact Gro.refl_drew _ _ _ | with_reducible exact Gro.refl_drewN _ _ _ _ | assumption | with_reducible apply Gro.more | with_reducible apply Gro.alloc | with_reducible apply Gro.drew | with_reducible apply Gro.drewN)); done))
            · have hge : decide ((32768 : Int) ≤ (u : Int)) = false := decide_eq_false (by simp at hlt2; omega)
              clear hsg hlt2 hul
              go_wp2_with (fail)
              go_region
              go_wp2_with (fail)
              have h2 := set2 h0 (.int .i64 (s[a].toNat : Int)) (.int .i64 ((u : Int)))
              have hz := box2 h2.1
              refine bodyPost_ret (v := .tuple #[.agg #[.int .i64 (s[a].toNat : Int), .int .i64 ((u : Int))], .int .i64 ((1 + 2 : Nat) : Int), .bool true]) (by simp [results, Try.results134, go_sem, hz, rl]) rfl ?_
              exact ret_op (q := ⟨(s[a].toNat : Int), (u : Int), 1 + 2, true⟩) (by rw [HQ.out, hbn]; try (first | rfl | rw [Nat.add_comm])) ((h2.2.gro hG.out (fun b hb => by simp at hb; omega)).trans (by (repeat (first | with_reducible exact Gro.refl _ | with_reducible exact Gro.refl_drew _ _ _ | with_reducible exact Gro.refl_drewN _ _ _ _ | assumption | with_reducible apply Gro.more | with_reducible apply Gro.alloc | with_reducible apply Gro.drew | with_reducible apply Gro.drewN)); done))
end Go.Proofs.Ytbhobjepjaeffaa
namespace Go.Proofs.Ytbhobjepjaeffaa
open Go.RowKit
structure DOp where
  Code : Int
  Arg : Int
  deriving DecidableEq
def tOp : Ty DOp := (intT.prod intT).via fun x => (x.Code, x.Arg)
theorem tOp_mkR {w : World} {B : Nat} {x : DOp}  (h0 : I64 x.Code) (h1 : I64 x.Arg) : tOp.R w B [.int .i64 x.Code, .int .i64 x.Arg] x := by
  exact ⟨[.int .i64 x.Code], [.int .i64 x.Arg], rfl, ⟨rfl, h0.1, h0.2⟩, ⟨rfl, h1.1, h1.2⟩⟩
theorem toOpS_info : (Try.prog.info? 166).map (fun i => (i.zero, i.size, i.bytes)) = some (some (.agg #[.int .i64 0, .int .i64 0]), 2, 16) := by kernel_rfl
theorem flatOp : Flat tOp := flat_via _ (flat_prod flat_int flat_int)
theorem elOp : Elem Try.prog 147 166 tOp 16 := by
  obtain ⟨i0, hi, hz0, hz1, hz2⟩ := info_parts toOpS_info
  exact ⟨Try.underlying147, ⟨i0, _, hi, hz0, hz1, hz2, rfl⟩, by decide⟩
end Go.Proofs.Ytbhobjepjaeffaa
namespace Go.Proofs.Ytbhobjepjaeffaa
open Go.RowKit
def RetDis (b : Bool) (w : World) (e : Ending) (w' : World) : Prop := ∃ A n c, e = .returned (.tuple #[.slice A n c, .bool b]) ∧ Gro w w'
set_option maxRecDepth 100000 in
set_option maxHeartbeats 4000000 in
theorem dis_i (s : ByteArray) (w : World) (hs : s.size ≤ 1099511627776) : Calls Try.prog 113 #[.string s] w (RetDis (disOk s 0) w) := by
  go_enter Try.func113, Try.ntmps113
  go_wp2_with (fail)
  have en := heap_alloc_new w (.cells #[] 166)
  go_loopw [4, 5] (fun x y wr => ∃ (a : Nat) (l : List DOp) (A : Option Addr) (c : Nat) (S : List Nat), x = .slice A l.length c ∧ y = .int .i64 a ∧ a ≤ s.size ∧ l.length ≤ a ∧ Has (tOp.sl 166) wr [.slice A l.length c] l S ∧ (∀ b ∈ S, w.heap.size ≤ b) ∧ Hid (disOk s a = disOk s 0) ∧ Hid (Gro w wr)) (fun _ y _ => s.size - (intOf y).toNat)
  case atStart => exact ⟨0, [], _, 0, [w.heap.size], rfl, rfl, Nat.zero_le _, Nat.le_refl _, Has.emp tOp en, by simp, Lib.hid rfl, Lib.hid (by repeat (first | with_reducible exact Gro.refl _ | with_reducible exact Gro.refl_drew _ _ _ | with_reducible exact Gro.refl_drewN _ _ _ _ | assumption | with_reducible apply Gro.more | with_reducible apply Gro.alloc | with_reducible apply Gro.drew | with_reducible apply Gro.drewN))⟩
  case round =>
    clear en
    obtain ⟨a, l, A, c, S, rfl, rfl, ha, hl, hH, hS, hd, hG⟩ := hrel
    by_cases hlt : a < s.size
    · have ha64 : I64 (a : Int) := ⟨by omega, by omega⟩
      obtain ⟨r, hr⟩ : ∃ r, decOp s (a : Int) = r := ⟨_, rfl⟩
      have hk := decOp_ok hr
      have har := decOp_arg hr
      cases hrk : r.ok with
      | false =>
        have HQ := Lib.hid (show disOk s 0 = false from by rw [← hd.out]; exact disOk_bad hlt (by rw [hr]; exact hrk))
        have hz := decOp_zero hr hrk
        subst hz
        have HR := Lib.hid hr
        clear hr hrk hk
        go_wp2_with (go_at_call 131; (with_reducible refine (decodeOp_i s (a : Int) _ hs ha64).mono ?_); rw [HR.out]; rintro e w4 ⟨rfl, os4, d4, rfl⟩)
        go_ret2
        exact ⟨_, _, _, by rw [HQ.out]; rfl, hG.out.trans (by (repeat (first | with_reducible exact Gro.refl _ | with_reducible exact Gro.refl_drew _ _ _ | with_reducible exact Gro.refl_drewN _ _ _ _ | assumption | with_reducible apply Gro.more | with_reducible apply Gro.alloc | with_reducible apply Gro.drew | with_reducible apply Gro.drewN)); done)⟩
      | true =>
        obtain ⟨k0, k1, k2, k3, k4, k5⟩ := hk hrk
        obtain ⟨co, ar, n, okk⟩ := r
        simp only at hrk k0 k1 k2 k3 k4 k5 har
        subst hrk
        have HST := Lib.hid (show disOk s (a + n) = disOk s 0 from by rw [← hd.out, disOk_step hlt (by rw [hr]), hr])
        have HR := Lib.hid hr
        clear hr hk
        have hxR : tOp.R w 0 [.int .i64 co, .int .i64 ar] ⟨co, ar⟩ := tOp_mkR (x := ⟨co, ar⟩) ⟨by simp only; omega, by simp only; omega⟩ ⟨by simp only; omega, by simp only; omega⟩
        go_wp2_with (first
          | (go_at_call 131; (with_reducible refine (decodeOp_i s (a : Int) _ hs ha64).mono ?_); rw [HR.out]; rintro e w4 ⟨rfl, os4, d4, rfl⟩)
          | (refine wpList_append_hasf (L := l.length + 1) (y := (⟨co, ar⟩ : DOp)) rfl (.tmp 23) (.tmp 25) elOp flatOp (S := S) (hH.gro (by (repeat (first | with_reducible exact Gro.refl _ | with_reducible exact Gro.refl_drew _ _ _ | with_reducible exact Gro.refl_drewN _ _ _ _ | assumption | with_reducible apply Gro.more | with_reducible apply Gro.alloc | with_reducible apply Gro.drew | with_reducible apply Gro.drewN)); done)) (ec := [.int .i64 co, .int .i64 ar]) (W1 := w) (B := 0) hxR rfl rfl rfl (by intro j u hu; simpa [go_sem] using hu) rfl (by omega) (by omega) ?_; intro A7 c7 W7 S7 hon hH7 hS7))
        go_roundw
        case measure => (simp [intOf]; try omega)
        case rel =>
          refine ⟨a + n, l ++ [⟨co, ar⟩], A7, c7, S7, by rw [List.length_append]; rfl, by go_num, by omega, by rw [List.length_append, List.length_singleton]; omega, by rw [List.length_append]; exact hH7, fun b hb => ?_, HST, Lib.hid (hon.gro (hG.out.trans (by (repeat (first | with_reducible exact Gro.refl _ | with_reducible exact Gro.refl_drew _ _ _ | with_reducible exact Gro.refl_drewN _ _ _ _ | assumption | with_reducible apply Gro.more | with_reducible apply Gro.alloc | with_reducible apply Gro.drew | with_reducible apply Gro.drewN)); done)) hS)⟩
          rcases hS7 b hb with h | h
          · exact hS b h
          · have := hG.out.size
            simp at h
            omega
    · obtain rfl : a = s.size := by omega
      have HQ := Lib.hid (show disOk s 0 = true from by rw [← hd.out]; exact disOk_end (Nat.le_refl _))
      go_wp2_with (fail)
      go_ret2
      exact ⟨_, _, _, by rw [HQ.out]; rfl, hG.out⟩
set_option maxRecDepth 100000 in
set_option maxHeartbeats 4000000 in
theorem dis_s (s : ByteArray) (w : World) (hs : s.size ≤ 1099511627776) : Calls Try.prog 111 #[.string s] w (RetDis (disOk s 0) w) := by
  go_enter Try.func111, Try.ntmps111
  go_wp2_with (fail)
  have en := heap_alloc_new w (.cells #[] 166)
  go_loopw [4, 5] (fun x y wr => ∃ (a : Nat) (l : List DOp) (A : Option Addr) (c : Nat) (S : List Nat), x = .slice A l.length c ∧ y = .int .i64 a ∧ a ≤ s.size ∧ l.length ≤ a ∧ Has (tOp.sl 166) wr [.slice A l.length c] l S ∧ (∀ b ∈ S, w.heap.size ≤ b) ∧ Hid (disOk s a = disOk s 0) ∧ Hid (Gro w wr)) (fun _ y _ => s.size - (intOf y).toNat)
  case atStart => exact ⟨0, [], _, 0, [w.heap.size], rfl, rfl, Nat.zero_le _, Nat.le_refl _, Has.emp tOp en, by simp, Lib.hid rfl, Lib.hid (by repeat (first | with_reducible exact Gro.refl _ | with_reducible exact Gro.refl_drew _ _ _ | with_reducible exact Gro.refl_drewN _ _ _ _ | assumption | with_reducible apply Gro.more | with_reducible apply Gro.alloc | with_reducible apply Gro.drew | with_reducible apply Gro.drewN))⟩
  case round =>
    clear en
    obtain ⟨a, l, A, c, S, rfl, rfl, ha, hl, hH, hS, hd, hG⟩ := hrel
    by_cases hlt : a < s.size
    · have ha64 : I64 (a : Int) := ⟨by omega, by omega⟩
      obtain ⟨r, hr⟩ : ∃ r, decOp s (a : Int) = r := ⟨_, rfl⟩
      have hk := decOp_ok hr
      have har := decOp_arg hr
      cases hrk : r.ok with
      | false =>
        have HQ := Lib.hid (show disOk s 0 = false from by rw [← hd.out]; exact disOk_bad hlt (by rw [hr]; exact hrk))
        have hz := decOp_zero hr hrk
        subst hz
        have HR := Lib.hid hr
        clear hr hrk hk
        go_wp2_with (go_at_call 134; (with_reducible refine (decodeOp_s s (a : Int) _ hs ha64).mono ?_); rw [HR.out]; rintro e w4 ⟨rfl, os4, d4, rfl⟩)
        go_ret2
        exact ⟨_, _, _, by rw [HQ.out]; rfl, hG.out.trans (by (repeat (first | with_reducible exact Gro.refl _ | with_reducible exact Gro.refl_drew _ _ _ | with_reducible exact Gro.refl_drewN _ _ _ _ | assumption | with_reducible apply Gro.more | with_reducible apply Gro.alloc | with_reducible apply Gro.drew | with_reducible apply Gro.drewN)); done)⟩
      | true =>
        obtain ⟨k0, k1, k2, k3, k4, k5⟩ := hk hrk
        obtain ⟨co, ar, n, okk⟩ := r
        simp only at hrk k0 k1 k2 k3 k4 k5 har
        subst hrk
        have HST := Lib.hid (show disOk s (a + n) = disOk s 0 from by rw [← hd.out, disOk_step hlt (by rw [hr]), hr])
        have HR := Lib.hid hr
        clear hr hk
        have hxR : tOp.R w 0 [.int .i64 co, .int .i64 ar] ⟨co, ar⟩ := tOp_mkR (x := ⟨co, ar⟩) ⟨by simp only; omega, by simp only; omega⟩ ⟨by simp only; omega, by simp only; omega⟩
        go_wp2_with (first
          | (go_at_call 134; (with_reducible refine (decodeOp_s s (a : Int) _ hs ha64).mono ?_); rw [HR.out]; rintro e w4 ⟨rfl, os4, d4, rfl⟩)
          | (refine wpList_append_hasf (L := l.length + 1) (y := (⟨co, ar⟩ : DOp)) rfl (.tmp 24) (.tmp 26) elOp flatOp (S := S) (hH.gro (by (repeat (first | with_reducible exact Gro.refl _ | with_reducible exact Gro.refl_drew _ _ _ | with_reducible exact Gro.refl_drewN _ _ _ _ | assumption | with_reducible apply Gro.more | with_reducible apply Gro.alloc | with_reducible apply Gro.drew | with_reducible apply Gro.drewN)); done)) (ec := [.int .i64 co, .int .i64 ar]) (W1 := w) (B := 0) hxR rfl rfl rfl (by intro j u hu; simpa [go_sem] using hu) rfl (by omega) (by omega) ?_; intro A7 c7 W7 S7 hon hH7 hS7))
        go_roundw
        case measure => (simp [intOf]; try omega)
        case rel =>
          refine ⟨a + n, l ++ [⟨co, ar⟩], A7, c7, S7, by rw [List.length_append]; rfl, by go_num, by omega, by rw [List.length_append, List.length_singleton]; omega, by rw [List.length_append]; exact hH7, fun b hb => ?_, HST, Lib.hid (hon.gro (hG.out.trans (by (repeat (first | with_reducible exact Gro.refl _ | with_reducible exact Gro.refl_drew _ _ _ | with_reducible exact Gro.refl_drewN _ _ _ _ | assumption | with_reducible apply Gro.more | with_reducible apply Gro.alloc | with_reducible apply Gro.drew | with_reducible apply Gro.drewN)); done)) hS)⟩
          rcases hS7 b hb with h | h
          · exact hS b h
          · have := hG.out.size
            simp at h
            omega
    · obtain rfl : a = s.size := by omega
      have HQ := Lib.hid (show disOk s 0 = true from by rw [← hd.out]; exact disOk_end (Nat.le_refl _))
      go_wp2_with (fail)
      go_ret2
      exact ⟨_, _, _, by rw [HQ.out]; rfl, hG.out⟩
end Go.Proofs.Ytbhobjepjaeffaa
namespace Go.Proofs.Ytbhobjepjaeffaa
open Go.RowKit
structure DSymbol where
  Name : ByteArray
  Start : Int
  Size : Int
  deriving DecidableEq
def tSymbol : Ty DSymbol := (strT.prod (intT.prod intT)).via fun x => (x.Name, x.Start, x.Size)
theorem tSymbol_opens : Opens Try.prog 178 tSymbol := opens_via _ (fun x => ⟨x.1, x.2.1, x.2.2⟩) (fun _ => rfl) (opens_struct Try.underlying178 (by kernel_rfl) (opF_cons rfl (by kernel_rfl) (opens_str Try.underlying9) (opF_cons rfl (by kernel_rfl) (opens_int Try.underlying3) (opF_one rfl (by kernel_rfl) (opens_int Try.underlying3)))))
theorem tSymbol_R {w : World} {B : Nat} {cs : List Value} {x : DSymbol} (h : tSymbol.R w B cs x) : cs = [.string x.Name, .int .i64 x.Start, .int .i64 x.Size] ∧ x.Name.size ≤ 9223372036854775807 ∧ I64 x.Start ∧ I64 x.Size := by
  obtain ⟨_, _, rfl, ⟨rfl, b1_Name⟩, ⟨_, _, rfl, ⟨rfl, b1_Start, b2_Start⟩, ⟨rfl, b1_Size, b2_Size⟩⟩⟩ := h
  exact ⟨rfl, b1_Name, ⟨b1_Start, b2_Start⟩, ⟨b1_Size, b2_Size⟩⟩
theorem tSymbol_O {w : World} {cs : List Value} {x : DSymbol} {S : List Nat} (h : tSymbol.O w cs x S) : cs = [.string x.Name, .int .i64 x.Start, .int .i64 x.Size] ∧ S = [] ∧ x.Name.size ≤ 9223372036854775807 ∧ I64 x.Start ∧ I64 x.Size := by
  obtain ⟨_, _, _, _, rfl, rfl, ⟨rfl, b1_Name, rfl⟩, ⟨_, _, _, _, rfl, rfl, ⟨rfl, b1_Start, b2_Start, rfl⟩, ⟨rfl, b1_Size, b2_Size, rfl⟩⟩⟩ := h
  exact ⟨rfl, rfl, b1_Name, ⟨b1_Start, b2_Start⟩, ⟨b1_Size, b2_Size⟩⟩
structure DImage where
  Code : ByteArray
  Symbols : List DSymbol
  deriving DecidableEq
def tImage : Ty DImage := (strT.prod (tSymbol.sl 118)).via fun x => (x.Code, x.Symbols)
theorem tImage_opens : Opens Try.prog 125 tImage := opens_via _ (fun x => ⟨x.1, x.2⟩) (fun _ => rfl) (opens_struct Try.underlying125 (by kernel_rfl) (opF_cons rfl (by kernel_rfl) (opens_str Try.underlying9) (opF_one rfl (by kernel_rfl) (opens_sl Try.underlying123 (by kernel_rfl) (by decide) tSymbol_opens))))
theorem tImage_R {w : World} {B : Nat} {cs : List Value} {x : DImage} (h : tImage.R w B cs x) : ∃ A0 c0, cs = [.string x.Code, .slice A0 x.Symbols.length c0] ∧ x.Code.size ≤ 9223372036854775807 ∧ (tSymbol.sl 118).R w B [.slice A0 x.Symbols.length c0] x.Symbols := by
  obtain ⟨_, _, rfl, ⟨rfl, b1_Code⟩, s_Symbols⟩ := h
  obtain ⟨A0, c0, rfl, _⟩ := id s_Symbols
  exact ⟨A0, c0, rfl, b1_Code, s_Symbols⟩
theorem tImage_O {w : World} {cs : List Value} {x : DImage} {S : List Nat} (h : tImage.O w cs x S) : ∃ A0 c0 S0, cs = [.string x.Code, .slice A0 x.Symbols.length c0] ∧ S = S0 ∧ x.Code.size ≤ 9223372036854775807 ∧ (tSymbol.sl 118).O w [.slice A0 x.Symbols.length c0] x.Symbols S0 := by
  obtain ⟨_, _, _, _, rfl, rfl, ⟨rfl, b1_Code, rfl⟩, s_Symbols⟩ := h
  obtain ⟨A0, c0, _, _, rfl, _⟩ := id s_Symbols
  exact ⟨A0, c0, _, rfl, by simp, b1_Code, s_Symbols⟩
structure DSpace where
  Images : List DImage
  Bases : List Int
  Entries : List Int
  deriving DecidableEq
def tSpace : Ty DSpace := ((tImage.sl 96).prod ((intT.sl 3).prod (intT.sl 3))).via fun x => (x.Images, x.Bases, x.Entries)
theorem tSpace_opens : Opens Try.prog 25 tSpace := opens_via _ (fun x => ⟨x.1, x.2.1, x.2.2⟩) (fun _ => rfl) (opens_struct Try.underlying25 (by kernel_rfl) (opF_cons rfl (by kernel_rfl) (opens_sl Try.underlying22 (by kernel_rfl) (by decide) tImage_opens) (opF_cons rfl (by kernel_rfl) (opens_sl Try.underlying23 (by kernel_rfl) (by decide) (opens_int Try.underlying3)) (opF_one rfl (by kernel_rfl) (opens_sl Try.underlying23 (by kernel_rfl) (by decide) (opens_int Try.underlying3))))))
theorem tSpace_R {w : World} {B : Nat} {cs : List Value} {x : DSpace} (h : tSpace.R w B cs x) : ∃ A0 c0 A1 c1 A2 c2, cs = [.slice A0 x.Images.length c0, .slice A1 x.Bases.length c1, .slice A2 x.Entries.length c2] ∧ (tImage.sl 96).R w B [.slice A0 x.Images.length c0] x.Images ∧ (intT.sl 3).R w B [.slice A1 x.Bases.length c1] x.Bases ∧ (intT.sl 3).R w B [.slice A2 x.Entries.length c2] x.Entries := by
  obtain ⟨_, _, rfl, s_Images, ⟨_, _, rfl, s_Bases, s_Entries⟩⟩ := h
  obtain ⟨A0, c0, rfl, _⟩ := id s_Images
  obtain ⟨A1, c1, rfl, _⟩ := id s_Bases
  obtain ⟨A2, c2, rfl, _⟩ := id s_Entries
  exact ⟨A0, c0, A1, c1, A2, c2, rfl, s_Images, s_Bases, s_Entries⟩
theorem tSpace_O {w : World} {cs : List Value} {x : DSpace} {S : List Nat} (h : tSpace.O w cs x S) : ∃ A0 c0 S0 A1 c1 S1 A2 c2 S2, cs = [.slice A0 x.Images.length c0, .slice A1 x.Bases.length c1, .slice A2 x.Entries.length c2] ∧ S = S0 ++ S1 ++ S2 ∧ (tImage.sl 96).O w [.slice A0 x.Images.length c0] x.Images S0 ∧ (intT.sl 3).O w [.slice A1 x.Bases.length c1] x.Bases S1 ∧ (intT.sl 3).O w [.slice A2 x.Entries.length c2] x.Entries S2 := by
  obtain ⟨_, _, _, _, rfl, rfl, s_Images, ⟨_, _, _, _, rfl, rfl, s_Bases, s_Entries⟩⟩ := h
  obtain ⟨A0, c0, _, _, rfl, _⟩ := id s_Images
  obtain ⟨A1, c1, _, _, rfl, _⟩ := id s_Bases
  obtain ⟨A2, c2, _, _, rfl, _⟩ := id s_Entries
  exact ⟨A0, c0, _, A1, c1, _, A2, c2, _, rfl, by simp, s_Images, s_Bases, s_Entries⟩
theorem tSpace_mkO {w : World} {x : DSpace} (A0 : Option Addr) (c0 : Nat) (S0 : List Nat) (A1 : Option Addr) (c1 : Nat) (S1 : List Nat) (A2 : Option Addr) (c2 : Nat) (S2 : List Nat)  (h0 : (tImage.sl 96).O w [.slice A0 x.Images.length c0] x.Images S0) (h1 : (intT.sl 3).O w [.slice A1 x.Bases.length c1] x.Bases S1) (h2 : (intT.sl 3).O w [.slice A2 x.Entries.length c2] x.Entries S2) : tSpace.O w [.slice A0 x.Images.length c0, .slice A1 x.Bases.length c1, .slice A2 x.Entries.length c2] x (S0 ++ S1 ++ S2) := by
  have h : tSpace.O w [.slice A0 x.Images.length c0, .slice A1 x.Bases.length c1, .slice A2 x.Entries.length c2] x (S0 ++ (S1 ++ S2)) := ⟨[.slice A0 x.Images.length c0], [.slice A1 x.Bases.length c1, .slice A2 x.Entries.length c2], S0, (S1 ++ S2), rfl, rfl, h0, ⟨[.slice A1 x.Bases.length c1], [.slice A2 x.Entries.length c2], S1, S2, rfl, rfl, h1, h2⟩⟩
  simpa using h
structure DMachine where
  Pc : Int
  Sp : Int
  Fp : Int
  Stack : List Int
  Out : List Int
  State : Int
  Value : Int
  deriving DecidableEq
def tMachine : Ty DMachine := (intT.prod (intT.prod (intT.prod ((intT.sl 3).prod ((intT.sl 3).prod (intT.prod intT)))))).via fun x => (x.Pc, x.Sp, x.Fp, x.Stack, x.Out, x.State, x.Value)
theorem tMachine_opens : Opens Try.prog 112 tMachine := opens_via _ (fun x => ⟨x.1, x.2.1, x.2.2.1, x.2.2.2.1, x.2.2.2.2.1, x.2.2.2.2.2.1, x.2.2.2.2.2.2⟩) (fun _ => rfl) (opens_struct Try.underlying112 (by kernel_rfl) (opF_cons rfl (by kernel_rfl) (opens_int Try.underlying3) (opF_cons rfl (by kernel_rfl) (opens_int Try.underlying3) (opF_cons rfl (by kernel_rfl) (opens_int Try.underlying3) (opF_cons rfl (by kernel_rfl) (opens_sl Try.underlying23 (by kernel_rfl) (by decide) (opens_int Try.underlying3)) (opF_cons rfl (by kernel_rfl) (opens_sl Try.underlying23 (by kernel_rfl) (by decide) (opens_int Try.underlying3)) (opF_cons rfl (by kernel_rfl) (opens_int Try.underlying3) (opF_one rfl (by kernel_rfl) (opens_int Try.underlying3)))))))))
theorem tMachine_R {w : World} {B : Nat} {cs : List Value} {x : DMachine} (h : tMachine.R w B cs x) : ∃ A0 c0 A1 c1, cs = [.int .i64 x.Pc, .int .i64 x.Sp, .int .i64 x.Fp, .slice A0 x.Stack.length c0, .slice A1 x.Out.length c1, .int .i64 x.State, .int .i64 x.Value] ∧ I64 x.Pc ∧ I64 x.Sp ∧ I64 x.Fp ∧ (intT.sl 3).R w B [.slice A0 x.Stack.length c0] x.Stack ∧ (intT.sl 3).R w B [.slice A1 x.Out.length c1] x.Out ∧ I64 x.State ∧ I64 x.Value := by
  obtain ⟨_, _, rfl, ⟨rfl, b1_Pc, b2_Pc⟩, ⟨_, _, rfl, ⟨rfl, b1_Sp, b2_Sp⟩, ⟨_, _, rfl, ⟨rfl, b1_Fp, b2_Fp⟩, ⟨_, _, rfl, s_Stack, ⟨_, _, rfl, s_Out, ⟨_, _, rfl, ⟨rfl, b1_State, b2_State⟩, ⟨rfl, b1_Value, b2_Value⟩⟩⟩⟩⟩⟩⟩ := h
  obtain ⟨A0, c0, rfl, _⟩ := id s_Stack
  obtain ⟨A1, c1, rfl, _⟩ := id s_Out
  exact ⟨A0, c0, A1, c1, rfl, ⟨b1_Pc, b2_Pc⟩, ⟨b1_Sp, b2_Sp⟩, ⟨b1_Fp, b2_Fp⟩, s_Stack, s_Out, ⟨b1_State, b2_State⟩, ⟨b1_Value, b2_Value⟩⟩
theorem tMachine_O {w : World} {cs : List Value} {x : DMachine} {S : List Nat} (h : tMachine.O w cs x S) : ∃ A0 c0 S0 A1 c1 S1, cs = [.int .i64 x.Pc, .int .i64 x.Sp, .int .i64 x.Fp, .slice A0 x.Stack.length c0, .slice A1 x.Out.length c1, .int .i64 x.State, .int .i64 x.Value] ∧ S = S0 ++ S1 ∧ I64 x.Pc ∧ I64 x.Sp ∧ I64 x.Fp ∧ (intT.sl 3).O w [.slice A0 x.Stack.length c0] x.Stack S0 ∧ (intT.sl 3).O w [.slice A1 x.Out.length c1] x.Out S1 ∧ I64 x.State ∧ I64 x.Value := by
  obtain ⟨_, _, _, _, rfl, rfl, ⟨rfl, b1_Pc, b2_Pc, rfl⟩, ⟨_, _, _, _, rfl, rfl, ⟨rfl, b1_Sp, b2_Sp, rfl⟩, ⟨_, _, _, _, rfl, rfl, ⟨rfl, b1_Fp, b2_Fp, rfl⟩, ⟨_, _, _, _, rfl, rfl, s_Stack, ⟨_, _, _, _, rfl, rfl, s_Out, ⟨_, _, _, _, rfl, rfl, ⟨rfl, b1_State, b2_State, rfl⟩, ⟨rfl, b1_Value, b2_Value, rfl⟩⟩⟩⟩⟩⟩⟩ := h
  obtain ⟨A0, c0, _, _, rfl, _⟩ := id s_Stack
  obtain ⟨A1, c1, _, _, rfl, _⟩ := id s_Out
  exact ⟨A0, c0, _, A1, c1, _, rfl, by simp, ⟨b1_Pc, b2_Pc⟩, ⟨b1_Sp, b2_Sp⟩, ⟨b1_Fp, b2_Fp⟩, s_Stack, s_Out, ⟨b1_State, b2_State⟩, ⟨b1_Value, b2_Value⟩⟩
structure DProcess where
  Space : DSpace
  Threads : List DMachine
  Turn : Int
  Left : Int
  Slice : Int
  deriving DecidableEq
def tProcess : Ty DProcess := (tSpace.prod ((tMachine.sl 80).prod (intT.prod (intT.prod intT)))).via fun x => (x.Space, x.Threads, x.Turn, x.Left, x.Slice)
theorem tProcess_opens : Opens Try.prog 28 tProcess := opens_via _ (fun x => ⟨x.1, x.2.1, x.2.2.1, x.2.2.2.1, x.2.2.2.2⟩) (fun _ => rfl) (opens_struct Try.underlying28 (by kernel_rfl) (opF_cons rfl (by kernel_rfl) tSpace_opens (opF_cons rfl (by kernel_rfl) (opens_sl Try.underlying26 (by kernel_rfl) (by decide) tMachine_opens) (opF_cons rfl (by kernel_rfl) (opens_int Try.underlying3) (opF_cons rfl (by kernel_rfl) (opens_int Try.underlying3) (opF_one rfl (by kernel_rfl) (opens_int Try.underlying3)))))))
theorem tProcess_R {w : World} {B : Nat} {cs : List Value} {x : DProcess} (h : tProcess.R w B cs x) : ∃ A0 c0 A1 c1 A2 c2 A3 c3, cs = [.slice A0 x.Space.Images.length c0, .slice A1 x.Space.Bases.length c1, .slice A2 x.Space.Entries.length c2, .slice A3 x.Threads.length c3, .int .i64 x.Turn, .int .i64 x.Left, .int .i64 x.Slice] ∧ (tImage.sl 96).R w B [.slice A0 x.Space.Images.length c0] x.Space.Images ∧ (intT.sl 3).R w B [.slice A1 x.Space.Bases.length c1] x.Space.Bases ∧ (intT.sl 3).R w B [.slice A2 x.Space.Entries.length c2] x.Space.Entries ∧ (tMachine.sl 80).R w B [.slice A3 x.Threads.length c3] x.Threads ∧ I64 x.Turn ∧ I64 x.Left ∧ I64 x.Slice := by
  obtain ⟨_, _, rfl, ⟨_, _, rfl, s_Space_Images, ⟨_, _, rfl, s_Space_Bases, s_Space_Entries⟩⟩, ⟨_, _, rfl, s_Threads, ⟨_, _, rfl, ⟨rfl, b1_Turn, b2_Turn⟩, ⟨_, _, rfl, ⟨rfl, b1_Left, b2_Left⟩, ⟨rfl, b1_Slice, b2_Slice⟩⟩⟩⟩⟩ := h
  obtain ⟨A0, c0, rfl, _⟩ := id s_Space_Images
  obtain ⟨A1, c1, rfl, _⟩ := id s_Space_Bases
  obtain ⟨A2, c2, rfl, _⟩ := id s_Space_Entries
  obtain ⟨A3, c3, rfl, _⟩ := id s_Threads
  exact ⟨A0, c0, A1, c1, A2, c2, A3, c3, rfl, s_Space_Images, s_Space_Bases, s_Space_Entries, s_Threads, ⟨b1_Turn, b2_Turn⟩, ⟨b1_Left, b2_Left⟩, ⟨b1_Slice, b2_Slice⟩⟩
theorem tProcess_O {w : World} {cs : List Value} {x : DProcess} {S : List Nat} (h : tProcess.O w cs x S) : ∃ A0 c0 S0 A1 c1 S1 A2 c2 S2 A3 c3 S3, cs = [.slice A0 x.Space.Images.length c0, .slice A1 x.Space.Bases.length c1, .slice A2 x.Space.Entries.length c2, .slice A3 x.Threads.length c3, .int .i64 x.Turn, .int .i64 x.Left, .int .i64 x.Slice] ∧ S = S0 ++ S1 ++ S2 ++ S3 ∧ (tImage.sl 96).O w [.slice A0 x.Space.Images.length c0] x.Space.Images S0 ∧ (intT.sl 3).O w [.slice A1 x.Space.Bases.length c1] x.Space.Bases S1 ∧ (intT.sl 3).O w [.slice A2 x.Space.Entries.length c2] x.Space.Entries S2 ∧ (tMachine.sl 80).O w [.slice A3 x.Threads.length c3] x.Threads S3 ∧ I64 x.Turn ∧ I64 x.Left ∧ I64 x.Slice := by
  obtain ⟨_, _, _, _, rfl, rfl, ⟨_, _, _, _, rfl, rfl, s_Space_Images, ⟨_, _, _, _, rfl, rfl, s_Space_Bases, s_Space_Entries⟩⟩, ⟨_, _, _, _, rfl, rfl, s_Threads, ⟨_, _, _, _, rfl, rfl, ⟨rfl, b1_Turn, b2_Turn, rfl⟩, ⟨_, _, _, _, rfl, rfl, ⟨rfl, b1_Left, b2_Left, rfl⟩, ⟨rfl, b1_Slice, b2_Slice, rfl⟩⟩⟩⟩⟩ := h
  obtain ⟨A0, c0, _, _, rfl, _⟩ := id s_Space_Images
  obtain ⟨A1, c1, _, _, rfl, _⟩ := id s_Space_Bases
  obtain ⟨A2, c2, _, _, rfl, _⟩ := id s_Space_Entries
  obtain ⟨A3, c3, _, _, rfl, _⟩ := id s_Threads
  exact ⟨A0, c0, _, A1, c1, _, A2, c2, _, A3, c3, _, rfl, by simp, s_Space_Images, s_Space_Bases, s_Space_Entries, s_Threads, ⟨b1_Turn, b2_Turn⟩, ⟨b1_Left, b2_Left⟩, ⟨b1_Slice, b2_Slice⟩⟩
end Go.Proofs.Ytbhobjepjaeffaa
namespace Go.Proofs.Ytbhobjepjaeffaa
open Go.RowKit
def imgF (code : ByteArray) : List DSymbol → List ByteArray → Nat → Bool
  | [], _, a => decide (a = code.size)
  | x :: r, prev, a => decide (x.Start = (a : Int)) && decide (1 ≤ x.Size) && decide (x.Size ≤ (code.size : Int) - a) && nameOk x.Name && !prev.any (fun y => decide (y = x.Name)) && disOk (code.extract a (a + x.Size.toNat)) 0 && imgF code r (prev ++ [x.Name]) (a + x.Size.toNat)
def imageOk (i : DImage) : Bool := decide (i.Code.size ≤ 1000000) && imgF i.Code i.Symbols [] 0
def symHit (x : DSymbol) (off : Int) : Bool := btw x.Start 0 1000000 && btw x.Size 0 1000000 && decide (x.Start ≤ off) && decide (off < x.Start + x.Size)
def symGo : List DSymbol → Int → Nat → Int
  | [], _, _ => -1
  | x :: r, off, k => if symHit x off = true then (k : Int) else symGo r off (k + 1)
theorem imgF_cons {code : ByteArray} {x : DSymbol} {r : List DSymbol} {prev : List ByteArray} {a : Nat} (h : imgF code (x :: r) prev a = true) :
    x.Start = (a : Int) ∧ 1 ≤ x.Size ∧ x.Size ≤ (code.size : Int) - a ∧ imgF code r (prev ++ [x.Name]) (a + x.Size.toNat) = true := by
  simp only [imgF, Bool.and_eq_true, decide_eq_true_eq] at h
  exact ⟨h.1.1.1.1.1.1, h.1.1.1.1.1.2, h.1.1.1.1.2, h.2⟩
/-- the symbols of a right image lie one behind the other: the start of one is found -/
theorem sym_find {code : ByteArray} (hc : code.size ≤ 1000000) : ∀ (l : List DSymbol) (prev : List ByteArray) (a k0 : Nat), imgF code l prev a = true → ∀ x ∈ l, (∃ k y, symGo l x.Start k0 = ((k0 + k : Nat) : Int) ∧ l[k]? = some y ∧ y.Start = x.Start) ∧ (a : Int) ≤ x.Start ∧ x.Start + 1 ≤ code.size := by
  intro l
  induction l with
  | nil => intro prev a k0 _ x hx; cases hx
  | cons y r ih =>
    intro prev a k0 h x hx
    obtain ⟨h1, h2, h3, h4⟩ := imgF_cons h
    rcases List.mem_cons.1 hx with rfl | hx
    · refine ⟨⟨0, x, ?_, rfl, rfl⟩, by omega, by omega⟩
      have : symHit x x.Start = true := by
        unfold symHit
        rw [btw_mk (by omega) (by omega), btw_mk (by omega) (by omega)]
        simp; omega
      simp [symGo, this]
    · obtain ⟨⟨k, z, e1, e2, e3⟩, e4, e5⟩ := ih _ _ (k0 + 1) h4 x hx
      refine ⟨⟨k + 1, z, ?_, e2, e3⟩, by omega, e5⟩
      have : symHit y x.Start = false := by
        unfold symHit
        simp; omega
      simp only [symGo, this]
      rw [if_neg (by simp), e1]
      congr 1
      omega
theorem symGo_some : ∀ (l : List DSymbol) (off : Int) (k0 : Nat), symGo l off k0 = -1 ∨ ∃ k x, symGo l off k0 = ((k0 + k : Nat) : Int) ∧ l[k]? = some x ∧ x ∈ l := by
  intro l
  induction l with
  | nil => intro off k0; exact .inl rfl
  | cons x r ih =>
    intro off k0
    simp only [symGo]
    split
    · exact .inr ⟨0, x, by simp, rfl, by simp⟩
    · rcases ih off (k0 + 1) with h | ⟨k, y, h1, h2, h3⟩
      · exact .inl h
      · exact .inr ⟨k + 1, y, by rw [h1]; congr 1; omega, h2, by simp [h3]⟩
/-- where an address lies -/
def locGo : List DImage → List Int → Int → Nat → Int × Int
  | i :: is, b :: bs, a, k => if b ≤ a ∧ a < b + i.Code.size then ((k : Int), a - b) else locGo is bs a (k + 1)
  | _, _, _, _ => (-1, -1)
def loc (s : DSpace) (a : Int) : Int × Int := locGo s.Images s.Bases a 0
/-- the address of a symbol's start, said by search -/
def isEnt (s : DSpace) (e : Int) : Bool := (s.Images.zip s.Bases).any fun p => p.1.Symbols.any fun x => decide (p.2 + x.Start = e)
/-- .. said by place -/
def entS (s : DSpace) (e : Int) : Bool :=
  match s.Images[(loc s e).1.toNat]? with
  | none => false
  | some i => decide (0 ≤ (loc s e).1) && (match i.Symbols[(symGo i.Symbols (loc s e).2 0).toNat]? with
    | none => false
    | some x => decide (0 ≤ symGo i.Symbols (loc s e).2 0) && decide (x.Start = (loc s e).2))
def overlap (s : DSpace) : Bool :=
  match s.Images, s.Bases with
  | [i, j], [a, b] => decide (0 < i.Code.size) && decide (0 < j.Code.size) && decide (a < b + j.Code.size) && decide (b < a + i.Code.size)
  | _, _ => true
def spaceOk (s : DSpace) : Bool :=
  decide (s.Images.length = 2) && decide (s.Bases.length = 2) && btw s.Entries.length 1 6 && s.Images.all imageOk && s.Bases.all (fun b => btw b 1 1000000) && !overlap s && s.Entries.all (isEnt s)
theorem ent_eq {i j : DImage} {a b : Int} {es : List Int} (hi : imageOk i = true) (hj : imageOk j = true) (ha : 1 ≤ a) (hb : 1 ≤ b) (ho : ¬ (0 < i.Code.size ∧ 0 < j.Code.size ∧ a < b + j.Code.size ∧ b < a + i.Code.size)) (e : Int) :
    entS ⟨[i, j], [a, b], es⟩ e = isEnt ⟨[i, j], [a, b], es⟩ e := by
  simp only [imageOk, Bool.and_eq_true, decide_eq_true_eq] at hi hj
  obtain ⟨ci, fi⟩ := hi
  obtain ⟨cj, fj⟩ := hj
  have key : entS ⟨[i, j], [a, b], es⟩ e = true ↔ isEnt ⟨[i, j], [a, b], es⟩ e = true := by
    simp only [isEnt, List.zip_cons_cons, List.zip_nil_right, List.any_cons, List.any_nil, Bool.or_false, Bool.or_eq_true, List.any_eq_true, decide_eq_true_eq]
    constructor
    · intro h
      have hl : (loc ⟨[i, j], [a, b], es⟩ e = (0, e - a)) ∨ (loc ⟨[i, j], [a, b], es⟩ e = (1, e - b)) ∨ loc ⟨[i, j], [a, b], es⟩ e = (-1, -1) := by
        simp only [loc, locGo]
        split
        · simp
        · split
          · simp
          · simp
      have hz : ∀ (l : List DSymbol) (o : Int), (match l[(symGo l o 0).toNat]? with
          | none => false
          | some x => decide (0 ≤ symGo l o 0) && decide (x.Start = o)) = true → ∃ x ∈ l, x.Start = o := by
        intro l o h
        split at h
        · cases h
        · rename_i x hx
          simp only [Bool.and_eq_true, decide_eq_true_eq] at h
          exact ⟨x, List.mem_of_getElem? hx, h.2⟩
      unfold entS at h
      rcases hl with hl | hl | hl
      · rw [hl] at h
        simp at h
        obtain ⟨x, hx, hs⟩ := hz i.Symbols (e - a) (by simpa using h)
        exact .inl ⟨x, hx, by omega⟩
      · rw [hl] at h
        simp at h
        obtain ⟨x, hx, hs⟩ := hz j.Symbols (e - b) (by simpa using h)
        exact .inr ⟨x, hx, by omega⟩
      · rw [hl] at h
        simp at h
    · intro h
      rcases h with ⟨x, hx, he⟩ | ⟨x, hx, he⟩
      · obtain ⟨⟨k, y, e1, e2, e3⟩, e4, e5⟩ := sym_find ci i.Symbols [] 0 0 fi x hx
        have hl : loc ⟨[i, j], [a, b], es⟩ e = (0, x.Start) := by
          simp only [loc, locGo]
          rw [if_pos (by omega)]
          simp; omega
        unfold entS
        rw [hl]
        simp [e1, e2, e3]
      · obtain ⟨⟨k, y, e1, e2, e3⟩, e4, e5⟩ := sym_find cj j.Symbols [] 0 0 fj x hx
        have hl : loc ⟨[i, j], [a, b], es⟩ e = (1, x.Start) := by
          simp only [loc, locGo]
          rw [if_neg (by omega), if_pos (by omega)]
          simp; omega
        unfold entS
        rw [hl]
        simp [e1, e2, e3]
  cases h1 : entS ⟨[i, j], [a, b], es⟩ e <;> cases h2 : isEnt ⟨[i, j], [a, b], es⟩ e <;> simp_all
end Go.Proofs.Ytbhobjepjaeffaa
namespace Go.Proofs.Ytbhobjepjaeffaa
open Go.RowKit
theorem own_mix {α : Type} {T : Ty α} {e : TypeId} {w : World} {A : Option Addr} {n c : Nat} {xs : List α} {S : List Nat} (h : (T.sl e).O w [.slice A n c] xs S) (hS : S.Nodup) {k : Nat} {x : α} (hx : xs[k]? = some x) :
    ∃ g ec Sc cur, A = some ⟨g, 0, none⟩ ∧ g ∈ S ∧ g < w.heap.size ∧ g ∉ Sc ∧ (∀ j ∈ Sc, j ∈ S) ∧ Sc.Nodup ∧ T.O w ec x Sc ∧ w.heap[g]? = some (.cells cur e (0, 0)) ∧ k * T.size + T.size ≤ cur.size ∧ (∀ (j : Nat) (u : Value), ec[j]? = some u → cur[k * T.size + j]? = some u) ∧
      (∀ (w' : World) (y : α) (ec' : List Value) (cur' : Array Value), T.O w' ec' y Sc → w'.heap[g]? = some (.cells cur' e (0, 0)) → cur'.size = cur.size → (∀ i, i < k * T.size ∨ k * T.size + T.size ≤ i → cur'[i]? = cur[i]?) → (∀ (j : Nat) (u : Value), ec'[j]? = some u → cur'[k * T.size + j]? = some u) → OnlyS (g :: Sc) w w' → (T.sl e).O w' [.slice A n c] (xs.set k y) S) := by
  obtain ⟨A', c', ecs, S', h1, h2, h3, rfl⟩ := h
  injection h1 with h1 _
  injection h1 with hA hn hc
  subst hA hn hc
  have hk : k < xs.length := (List.getElem?_eq_some_iff.1 hx).1
  obtain ⟨a, ec, b, Sa, Sc, Sb, rfl, rfl, hl, ha, hO, hb⟩ := Rows.part h3 hx
  obtain ⟨hlen, hrest⟩ := h2
  rcases hrest with ⟨_, hn⟩ | ⟨g, cap, cur, hv, hbase, hg, hnc, hcm, hcs, htake⟩
  · omega
  · injection hv with hA _ hc
    subst hA hc
    have hgl : g < w.heap.size := (Array.getElem?_eq_some_iff.1 hg).1
    simp only [blockOf, List.singleton_append, List.nodup_cons, List.nodup_append, List.mem_append, not_or] at hS
    obtain ⟨⟨hga, hgc, hgb⟩, hna, ⟨hncd, hnb, hdcb⟩, hda⟩ := hS
    have hec : ec.length = T.size := T.lenO hO
    have hlc : (a ++ (ec ++ b)).length ≤ cur.size := by
      rw [← htake, List.length_take]
      have : cur.toList.length = cur.size := Array.length_toList
      omega
    have hcell : ∀ (j : Nat) (u : Value), (a ++ (ec ++ b))[j]? = some u → cur[j]? = some u := by
      intro j u hu
      rw [← htake, List.getElem?_take] at hu
      split at hu
      · simpa using hu
      · cases hu
    have hl2 : (a ++ (ec ++ b)).length = a.length + ec.length + b.length := by simp only [List.length_append]; omega
    have hM : xs.length * T.size = a.length + ec.length + b.length := by rw [← hlen, hl2]
    refine ⟨g, ec, Sc, cur, rfl, by simp [blockOf], hgl, hgc, fun j hj => by simp [hj], hncd, hO, hg, by omega, fun j u hu => ?_, fun w' y ec' cur' hy hg' hsz hout hin hon => ?_⟩
    · apply hcell
      rw [List.getElem?_append_right (by omega), hl, Nat.add_sub_cancel_left, List.getElem?_append_left (List.getElem?_eq_some_iff.1 hu).1]
      exact hu
    · have hec' : ec'.length = T.size := T.lenO hy
      have hlt : ∀ {S : List Nat} {ecs : List Value} {xs : List α}, Rows T w ecs xs S → ∀ i ∈ S, i < w.heap.size := fun h i hi => Rows.lt h i hi
      refine ⟨some ⟨g, 0, none⟩, c, a ++ (ec' ++ b), _, by rw [List.length_set], ⟨?_, .inr ⟨g, c, cur', by rw [List.length_set], hbase, hg', by simpa using hnc, hcm, by rw [hsz]; exact hcs, ?_⟩⟩, Rows.join hx (Rows.keep ha ?_) hy (Rows.keep hb ?_), rfl⟩
      · rw [List.length_set, ← hlen]
        simp [hec, hec']
      · rw [List.length_set]
        apply List.ext_getElem?
        intro i
        have hcl : cur'.toList.length = cur'.size := Array.length_toList
        rw [List.getElem?_take]
        by_cases hi : i < xs.length * T.size
        · rw [if_pos hi, Array.getElem?_toList]
          have hci : ∀ u, (a ++ (ec ++ b))[i]? = some u → cur[i]? = some u := hcell i
          by_cases h1 : i < k * T.size
          · rw [hout i (.inl h1), List.getElem?_append_left (by omega)]
            have h2 : i < a.length := by omega
            rw [List.getElem?_eq_getElem h2]
            exact hci _ (by rw [List.getElem?_append_left h2, List.getElem?_eq_getElem h2])
          · by_cases h2 : i < k * T.size + T.size
            · rw [List.getElem?_append_right (by omega), List.getElem?_append_left (by omega)]
              have h3 : i - a.length < ec'.length := by omega
              rw [List.getElem?_eq_getElem h3]
              have := hin (i - a.length) _ (List.getElem?_eq_getElem h3)
              rw [show k * T.size + (i - a.length) = i from by omega] at this
              exact this
            · rw [hout i (.inr (by omega)), List.getElem?_append_right (by omega), List.getElem?_append_right (by omega)]
              have h3 : i - a.length - ec'.length < b.length := by omega
              rw [List.getElem?_eq_getElem h3]
              refine hci _ ?_
              rw [List.getElem?_append_right (by omega), List.getElem?_append_right (by omega), show i - a.length - ec.length = i - a.length - ec'.length from by omega, List.getElem?_eq_getElem h3]
        · rw [if_neg hi, List.getElem?_eq_none (by simp only [List.length_append]; omega)]
      · exact fun i hi => hon.block i (hlt ha i hi) (fun hm => by
          rcases List.mem_cons.1 hm with rfl | hm
          · exact hga hi
          · exact hda i hi i (.inl hm) rfl)
      · exact fun i hi => hon.block i (hlt hb i hi) (fun hm => by
          rcases List.mem_cons.1 hm with rfl | hm
          · exact hgb hi
          · exact hdcb i hm i hi rfl)
theorem keepS {α : Type} (T : Ty α) {w w' : World} {cs : List Value} {x : α} {S L : List Nat} (h : T.O w cs x S) (ho : OnlyS L w w') (hd : ∀ b ∈ S, b ∉ L) : T.O w' cs x S :=
  T.keepO h (fun k hk => ho.block k (T.ltO h k hk) (hd k hk))
theorem not_one {g : Nat} {S : List Nat} (h : g ∉ S) : ∀ b ∈ S, b ∉ [g] := fun b hb hm => by
  simp only [List.mem_singleton] at hm
  exact h (hm ▸ hb)
theorem frz_blk {W : World} {g : Nat} {cur : Array Value} {e : TypeId} (h : W.heap[g]? = some (.cells cur e (0, 0))) : ∀ j, W.frozen? ⟨g, j, none⟩ = false := fun j => by simp [World.frozen?, h]
end Go.Proofs.Ytbhobjepjaeffaa
namespace Go.Proofs.Ytbhobjepjaeffaa
open Go.RowKit
def RetSymbol (x : DSymbol) (w : World) (r : Ending) (w' : World) : Prop := r = .returned (.agg #[.string x.Name, .int .i64 x.Start, .int .i64 x.Size]) ∧ Fresh tSymbol w w' [.string x.Name, .int .i64 x.Start, .int .i64 x.Size] x ∧ Gro w w'
theorem tSymbol_mkOd {w : World} {x : DSymbol} (h0 : x.Name.size ≤ 9223372036854775807) (h1 : I64 x.Start) (h2 : I64 x.Size) : tSymbol.O w [.string x.Name, .int .i64 x.Start, .int .i64 x.Size] x ([]) := by
  have h : tSymbol.O w [.string x.Name, .int .i64 x.Start, .int .i64 x.Size] x ([] ++ ([] ++ [])) := ⟨[.string x.Name], [.int .i64 x.Start, .int .i64 x.Size], [], ([] ++ []), rfl, rfl, ⟨rfl, h0, rfl⟩, ⟨[.int .i64 x.Start], [.int .i64 x.Size], [], [], rfl, rfl, ⟨rfl, h1.1, h1.2, rfl⟩, ⟨rfl, h2.1, h2.2, rfl⟩⟩⟩
  simpa using h
theorem eq_DSymbol {x y : DSymbol} : x = y ↔ x.Name = y.Name ∧ x.Start = y.Start ∧ x.Size = y.Size := by
  cases x
  cases y
  simp
def szSymbol (x : DSymbol) : Nat := x.Name.size
set_option maxRecDepth 100000 in
theorem toSymbol_l {x : DSymbol} {w : World} (h0 : x.Name.size ≤ 9223372036854775807) (h1 : I64 x.Start) (h2 : I64 x.Size) (hn : szSymbol x ≤ 1099511627776) : Calls Try.prog 136 #[.agg #[.string x.Name, .int .i64 x.Start, .int .i64 x.Size]] w (RetSymbol x w) := by
  unfold szSymbol at hn
  go_enter Try.func136, Try.ntmps136
  go_wp2
  refine bodyPost_ret (v := .agg #[.string x.Name, .int .i64 x.Start, .int .i64 x.Size]) (by simp [results, Try.results136, go_sem]) rfl ⟨rfl, ?_, (by repeat (first | with_reducible exact Gro.refl _ | with_reducible exact Gro.refl_drew _ _ _ | with_reducible exact Gro.refl_drewN _ _ _ _ | assumption | with_reducible apply Gro.more | with_reducible apply Gro.alloc | with_reducible apply Gro.drew | with_reducible apply Gro.drewN))⟩
  exact ⟨_, tSymbol_mkOd h0 h1 h2, List.nodup_nil, fun b hb => absurd hb (List.not_mem_nil)⟩
set_option maxRecDepth 100000 in
theorem szSymbol_l {x : DSymbol} {w : World} {left : Int} (h0 : x.Name.size ≤ 9223372036854775807) (h00 : 0 ≤ left) (h01 : left ≤ 1099511627776) : Calls Try.prog 135 #[.agg #[.string x.Name, .int .i64 x.Start, .int .i64 x.Size], .int .i64 left] w fun e w' => e = .returned (.int .i64 (szRes left (szSymbol x))) ∧ Gro w w' := by
  obtain ⟨n0, hn0⟩ : ∃ n, x.Name.size = n := ⟨_, rfl⟩
  have HS := Lib.hid (show szSymbol x = n0 from by unfold szSymbol; rw [hn0])
  have HN0 := Lib.hid hn0
  clear hn0
  by_cases c0' : (n0 : Int) ≤ left
  · skip
    have hx0 : x.Name.size = n0 := HN0.out
    go_enter Try.func135, Try.ntmps135
    go_wp2
    go_ret
    exact ⟨ret_int (by rw [HS.out]; unfold szRes; rw [if_pos (by omega)] <;> omega), (by repeat (first | with_reducible exact Gro.refl _ | with_reducible exact Gro.refl_drew _ _ _ | with_reducible exact Gro.refl_drewN _ _ _ _ | assumption | with_reducible apply Gro.more | with_reducible apply Gro.alloc | with_reducible apply Gro.drew | with_reducible apply Gro.drewN))⟩
  · have hx0 : x.Name.size = n0 := HN0.out
    go_enter Try.func135, Try.ntmps135
    go_wp2
    go_ret
    exact ⟨ret_int (by rw [HS.out]; unfold szRes; rw [if_neg (by omega)]), (by repeat (first | with_reducible exact Gro.refl _ | with_reducible exact Gro.refl_drew _ _ _ | with_reducible exact Gro.refl_drewN _ _ _ _ | assumption | with_reducible apply Gro.more | with_reducible apply Gro.alloc | with_reducible apply Gro.drew | with_reducible apply Gro.drewN))⟩
set_option maxRecDepth 100000 in
theorem eqSymbol_l {x y : DSymbol} {w : World}  : Calls Try.prog 137 #[.agg #[.string x.Name, .int .i64 x.Start, .int .i64 x.Size], .agg #[.string y.Name, .int .i64 y.Start, .int .i64 y.Size]] w fun e w' => e = .returned (.bool (decide (x = y))) ∧ Gro w w' := by
  go_enter Try.func137, Try.ntmps137
  go_wp2
  all_goals
    go_ret
    refine ⟨ret_bool ?_, (by repeat (first | with_reducible exact Gro.refl _ | with_reducible exact Gro.refl_drew _ _ _ | with_reducible exact Gro.refl_drewN _ _ _ _ | assumption | with_reducible apply Gro.more | with_reducible apply Gro.alloc | with_reducible apply Gro.drew | with_reducible apply Gro.drewN))⟩
    simp_all [eq_DSymbol, toList_inj']
end Go.Proofs.Ytbhobjepjaeffaa
namespace Go.Proofs.Ytbhobjepjaeffaa
open Go.RowKit
theorem atSymbol {e : TypeId} {w : World} {B : Nat} {A : Option Addr} {n c : Nat} {xs : List DSymbol} (h : (tSymbol.sl e).R w B [.slice A n c] xs) {k : Nat} (hk : k < xs.length) :
    ∃ g off x , A = some ⟨g, off, none⟩ ∧ g < B ∧ xs[k]? = some x ∧ w.cell? ⟨g, off + k * 3, none⟩ = some (.string x.Name) ∧ w.cell? ⟨g, off + k * 3 + 1, none⟩ = some (.int .i64 x.Start) ∧ w.cell? ⟨g, off + k * 3 + 2, none⟩ = some (.int .i64 x.Size) ∧ x.Name.size ≤ 9223372036854775807 ∧ I64 x.Start ∧ I64 x.Size := by
  obtain ⟨g, off, x, ec, h1, hB, h2, h3, h4⟩ := elem_at h hk
  obtain ⟨rfl, hf⟩ := tSymbol_R h3
  exact ⟨g, off, x, h1, hB, h2, h4 0 _ rfl, h4 1 _ rfl, h4 2 _ rfl, hf⟩
def mkESymbol (_ : DSymbol) (k : Int) : DSymbol := ⟨markTx k, k + 1, k + 1 + 1⟩
def mkSymbolS (xs : List DSymbol) (k : Int) : List DSymbol := mkL mkESymbol (fun _ => 3) xs k
def cntSymbolS (xs : List DSymbol) : Nat := xs.length * 3
theorem mkSymbolS_length (xs : List DSymbol) (k : Int) : (mkSymbolS xs k).length = xs.length := mkL_length _ _
theorem toSymbolS_info : (Try.prog.info? 118).map (fun i => (i.zero, i.size, i.bytes)) = some (some (.agg #[.string ⟨#[]⟩, .int .i64 0, .int .i64 0]), 3, 32) := by kernel_rfl
theorem flatSymbol : Flat tSymbol := flat_via _ (flat_prod flat_str (flat_prod flat_int flat_int))
theorem elSymbol : Elem Try.prog 94 118 tSymbol 32 := by
  obtain ⟨i0, hi, hz0, hz1, hz2⟩ := info_parts toSymbolS_info
  exact ⟨Try.underlying94, ⟨i0, _, hi, hz0, hz1, hz2, rfl⟩, by decide⟩
set_option maxRecDepth 100000 in
theorem szSymbolS_l {xs : List DSymbol} {w : World} {v : Value} {left : Int} (hx : (tSymbol.sl 118).R w w.heap.size [v] xs) (h0 : 0 ≤ left) (h1 : left ≤ 1099511627776) :
    Calls Try.prog 114 #[v, .int .i64 left] w fun e w' => e = .returned (.int .i64 (szRes left (szL szSymbol xs))) ∧ Gro w w' := by
  obtain ⟨A, c, rfl, h2, h3⟩ := sl_at hx
  by_cases h : (xs.length : Int) ≤ left
  · go_enter Try.func114, Try.ntmps114
    go_wp2_with (fail)
    go_loopw [1, 5] (fun a i wr => ∃ (j s : Nat), j ≤ xs.length ∧ Hid (s = ((xs.take j).map szSymbol).sum) ∧ (xs.length : Int) + s ≤ left ∧ a = .int .i64 (left - xs.length - s) ∧ i = .int .i64 j ∧ Hid (Gro w wr)) (fun _ i _ => xs.length - (intOf i).toNat)
    case atStart => exact ⟨0, 0, Nat.zero_le _, rfl, by omega, by simp, rfl, Gro.refl _⟩
    case round =>
      obtain ⟨j, s, hj, hs, hle, rfl, rfl, hG⟩ := hrel
      obtain ⟨os, d, rfl⟩ := hG.out
      clear hG
      by_cases hlt : j < xs.length
      · obtain ⟨g, off, x, rfl, hgb, hxk, hx0, hx1, hx2, bx0, bx1, bx2⟩ := atSymbol hx hlt
        have HX := Lib.hid (szSnoc szSymbol hxk)
        have HM := Lib.hid (szLe szSymbol xs (j + 1))
        obtain ⟨n0, hn0⟩ : ∃ n, szSymbol x = n := ⟨_, rfl⟩
        have HN := Lib.hid hn0
        clear hxk hx hn0
        by_cases hsz : (xs.length : Int) + s + n0 ≤ left
        · have HR := Lib.hid (show szRes (left - xs.length - s) n0 = left - xs.length - s - n0 from if_pos (by omega))
          go_wp2_with (go_at_call 135; refine (szSymbol_l (x := x) bx0 (by omega) (by omega)).mono ?_; rw [HN.out, HR.out]; rintro e w1 ⟨rfl, os1, d1, rfl⟩)
          go_roundw
          case rel => exact ⟨j + 1, s + n0, by omega, Lib.hid (by rw [hs.out, HX.out, HN.out]), by omega, by go_num, by go_num, Lib.hid (by repeat (first | with_reducible exact Gro.refl _ | with_reducible exact Gro.refl_drew _ _ _ | with_reducible exact Gro.refl_drewN _ _ _ _ | assumption | with_reducible apply Gro.more | with_reducible apply Gro.alloc | with_reducible apply Gro.drew | with_reducible apply Gro.drewN))⟩
          case measure => simp [intOf]; omega
        · have HR := Lib.hid (show szRes (left - xs.length - s) n0 = -1 from if_neg (by omega))
          have HQ := Lib.hid (show szRes left (szL szSymbol xs) = -1 from if_neg (by have h1 := HX.out; have h2 := HM.out; have h3 := hs.out; have h4 := HN.out; unfold szL; omega))
          go_wp2_with (go_at_call 135; refine (szSymbol_l (x := x) bx0 (by omega) (by omega)).mono ?_; rw [HN.out, HR.out]; rintro e w1 ⟨rfl, os1, d1, rfl⟩)
          go_ret
          exact ⟨ret_int HQ.out.symm, (by repeat (first | with_reducible exact Gro.refl _ | with_reducible exact Gro.refl_drew _ _ _ | with_reducible exact Gro.refl_drewN _ _ _ _ | assumption | with_reducible apply Gro.more | with_reducible apply Gro.alloc | with_reducible apply Gro.drew | with_reducible apply Gro.drewN))⟩
      · go_wp2
        go_ret
        exact ⟨ret_int (by
          have h3 := hs.out
          rw [szAll szSymbol (show j = xs.length by omega)] at h3
          unfold szRes szL
          rw [if_pos (by omega)]
          omega), (by repeat (first | with_reducible exact Gro.refl _ | with_reducible exact Gro.refl_drew _ _ _ | with_reducible exact Gro.refl_drewN _ _ _ _ | assumption | with_reducible apply Gro.more | with_reducible apply Gro.alloc | with_reducible apply Gro.drew | with_reducible apply Gro.drewN))⟩
  · have HR := Lib.hid (show szRes left (szL szSymbol xs) = -1 from if_neg (by unfold szL; omega))
    go_enter Try.func114, Try.ntmps114
    go_wp2
    go_ret
    exact ⟨ret_int HR.out.symm, Gro.refl _⟩
set_option maxRecDepth 100000 in
theorem toSymbolS_l {xs : List DSymbol} {w : World} {v : Value} (hx : (tSymbol.sl 118).R w w.heap.size [v] xs) (hn : szL szSymbol xs ≤ 1099511627776) :
    Calls Try.prog 115 #[v] w (RetSl tSymbol 118 xs w) := by
  obtain ⟨A, c, rfl, h2, h3⟩ := sl_at hx
  obtain ⟨i0, hi, hz0, hz1, hz2⟩ := info_parts toSymbolS_info
  have hn1 : xs.length ≤ 1099511627776 := Nat.le_trans (szL_len _ _) hn
  have hmk := run_make_rowN (P := Try.prog) 94 118 i0 _ Try.underlying94 hi hz0 .i64 .i64 xs.length xs.length (Nat.le_refl _) (by rw [hz2]; omega) (by omega)
  rw [hz1] at hmk
  clear hz0 hz1 hz2 hi
  go_enter Try.func115, Try.ntmps115
  go_wp2_with (fail)
  go_loopw [4] (fun i wr => ∃ (j : Nat) (cur : Array Value) (os : Array Obj) (d : Nat) (S' : List Nat), j ≤ xs.length ∧ i = .int .i64 j ∧ Hid (wr = gro (w.alloc (.cells cur 118)) os d) ∧ Hid (Rows tSymbol (gro (w.alloc (.cells cur 118)) os d) (cur.toList.take (j * 3)) (xs.take j) S') ∧ Hid (S'.Nodup) ∧ Hid (∀ b ∈ S', w.heap.size + 1 ≤ b) ∧ Hid (cur.size = xs.length * 3)) (fun i _ => xs.length - (intOf i).toNat)
  case atStart => exact ⟨0, _, _, _, [], Nat.zero_le _, rfl, gro_refl, Lib.hid (by simp [Rows]), Lib.hid List.nodup_nil, Lib.hid (by simp), madeCells_size _ _⟩
  case round =>
    obtain ⟨j, cur, os, d, S', hj, rfl, hw, hr, hN, hL, hsz⟩ := hrel
    have hw' := hw.out
    subst hw'
    clear hw hmk
    by_cases hlt : j < xs.length
    · obtain ⟨g, off, x, rfl, hgb, hxk, hx0, hx1, hx2, bx0, bx1, bx2⟩ := atSymbol hx hlt
      have hjs : j * 3 + 2 < cur.size := by have := hsz.out; omega
      obtain ⟨o0, ho0⟩ : ∃ u, cur[j * 3]? = some u := ⟨_, Array.getElem?_eq_getElem (by omega)⟩
      obtain ⟨o1, ho1⟩ : ∃ u, (cur.setIfInBounds (j * 3) (.string x.Name))[j * 3 + 1]? = some u := ⟨_, Array.getElem?_eq_getElem (by simp only [Array.size_setIfInBounds]; omega)⟩
      obtain ⟨o2, ho2⟩ : ∃ u, ((cur.setIfInBounds (j * 3) (.string x.Name)).setIfInBounds (j * 3 + 1) (.int .i64 x.Start))[j * 3 + 2]? = some u := ⟨_, Array.getElem?_eq_getElem (by simp only [Array.size_setIfInBounds]; omega)⟩
      have HX := Lib.hid hxk
      have hszx : szSymbol x ≤ 1099511627776 := Nat.le_trans (szL_elem szSymbol hxk) hn
      clear hxk hx
      go_wp2_with (fail)
      refine (toSymbol_l (x := x) bx0 bx1 bx2 hszx).mono ?_
      rintro e w1 ⟨rfl, hF, os1, d1, rfl⟩
      go_wp2
      go_roundw
      case rel =>
        rw [gro_gro] at hF
        obtain ⟨S'', h1, h2, h3, h4⟩ := rows_put (T := tSymbol) hr.out hN.out hL.out hsz.out hlt HX.out hF (by rw [← gro_gro]; exact Gro.of _ _ _)
        exact ⟨j + 1, _, os ++ os1, d1, S'', by omega, by go_num, gro_gro _ _ _ _, h1, h2, h3, h4⟩
      case measure => simp [intOf]; omega
    · have hje : j = xs.length := by omega
      subst hje
      go_wp2
      go_ret
      exact rows_done hr.out hN.out hL.out hsz.out (Nat.le_refl _) (by omega)
set_option maxRecDepth 100000 in
theorem eqSymbolS_l {xs ys : List DSymbol} {w : World} {v u : Value} (hx : (tSymbol.sl 118).R w w.heap.size [v] xs) (hy : (tSymbol.sl 118).R w w.heap.size [u] ys) :
    Calls Try.prog 116 #[v, u] w fun e w' => e = .returned (.bool (decide (xs = ys))) ∧ Gro w w' := by
  obtain ⟨A, c, rfl, h1, h2⟩ := sl_at hx
  obtain ⟨A', c', rfl, k1, k2⟩ := sl_at hy
  by_cases hl : xs.length = ys.length
  · have hne : ((xs.length : Int) != (ys.length : Int)) = false := by simp [hl]
    have HL := Lib.hid hl
    clear hl
    go_enter Try.func116, Try.ntmps116
    go_wp2_with (fail)
    go_loopw [5] (fun i wr => ∃ k : Nat, k ≤ xs.length ∧ i = .int .i64 k ∧ Hid (Gro w wr) ∧ Hid (xs.take k = ys.take k)) (fun i _ => xs.length - (intOf i).toNat)
    case atStart => exact ⟨0, Nat.zero_le _, rfl, Gro.refl _, Lib.hid (by simp)⟩
    case round =>
      obtain ⟨k, hk, rfl, hG, HT⟩ := hrel
      obtain ⟨os, d, rfl⟩ := hG.out
      clear hG
      by_cases hlt : k < xs.length
      · have hlt2 : k < ys.length := by rw [← HL.out]; exact hlt
        obtain ⟨g, off, x, rfl, hgb, hxk, hx0, hx1, hx2, bx0, bx1, bx2⟩ := atSymbol hx hlt
        obtain ⟨g', off', y, rfl, hgb', hyk, hy0, hy1, hy2, by0, by1, by2⟩ := atSymbol hy hlt2
        have HX := Lib.hid hxk
        have HY := Lib.hid hyk
        clear hxk hyk hx hy
        by_cases hxy : x = y
        · subst hxy
          go_wp2_with (fail)
          go_region_held3 (fun w' => w'.cell? ⟨g, off + k * 3, none⟩ = some (.string x.Name) ∧ w'.cell? ⟨g, off + k * 3 + 1, none⟩ = some (.int .i64 x.Start) ∧ w'.cell? ⟨g, off + k * 3 + 2, none⟩ = some (.int .i64 x.Size) ∧ w'.cell? ⟨g', off' + k * 3, none⟩ = some (.string x.Name) ∧ w'.cell? ⟨g', off' + k * 3 + 1, none⟩ = some (.int .i64 x.Start) ∧ w'.cell? ⟨g', off' + k * 3 + 2, none⟩ = some (.int .i64 x.Size)) ((repeat' apply And.intro) <;> (first | ((repeat (first | assumption | with_reducible refine gro_keeps ?_ _ _ | with_reducible refine alloc_keeps ?_ _ | with_reducible refine drew_keeps ?_)); done) | (simp [go_sem]; done))) (first
            | (go_at_call 137; refine (eqSymbol_l (x := x) (y := x)).mono ?_; rintro e w1 ⟨rfl, os1, d1, rfl⟩))
          go_wp2
          go_roundw
          case rel => exact ⟨k + 1, by omega, by go_num, Lib.hid (by repeat (first | with_reducible exact Gro.refl _ | with_reducible exact Gro.refl_drew _ _ _ | with_reducible exact Gro.refl_drewN _ _ _ _ | assumption | with_reducible apply Gro.more | with_reducible apply Gro.alloc | with_reducible apply Gro.drew | with_reducible apply Gro.drewN)), Lib.hid (by rw [take_snoc HX.out, take_snoc HY.out, HT.out])⟩
          case measure => simp [intOf]; omega
        · have HXY := Lib.hid (show decide (x = y) = false from by simp [hxy])
          go_wp2_with (fail)
          go_region_held3 (fun w' => w'.cell? ⟨g, off + k * 3, none⟩ = some (.string x.Name) ∧ w'.cell? ⟨g, off + k * 3 + 1, none⟩ = some (.int .i64 x.Start) ∧ w'.cell? ⟨g, off + k * 3 + 2, none⟩ = some (.int .i64 x.Size) ∧ w'.cell? ⟨g', off' + k * 3, none⟩ = some (.string y.Name) ∧ w'.cell? ⟨g', off' + k * 3 + 1, none⟩ = some (.int .i64 y.Start) ∧ w'.cell? ⟨g', off' + k * 3 + 2, none⟩ = some (.int .i64 y.Size)) ((repeat' apply And.intro) <;> (first | ((repeat (first | assumption | with_reducible refine gro_keeps ?_ _ _ | with_reducible refine alloc_keeps ?_ _ | with_reducible refine drew_keeps ?_)); done) | (simp [go_sem]; done))) (first
            | (go_at_call 137; refine (eqSymbol_l (x := x) (y := y)).mono ?_; rw [HXY.out]; rintro e w1 ⟨rfl, os1, d1, rfl⟩))
          go_wp2
          go_ret
          refine ⟨ret_bool ?_, (by repeat (first | with_reducible exact Gro.refl _ | with_reducible exact Gro.refl_drew _ _ _ | with_reducible exact Gro.refl_drewN _ _ _ _ | assumption | with_reducible apply Gro.more | with_reducible apply Gro.alloc | with_reducible apply Gro.drew | with_reducible apply Gro.drewN))⟩
          symm
          simp only [decide_eq_false_iff_not]
          rintro rfl
          exact hxy (Option.some.inj (HX.out.symm.trans HY.out))
      · go_wp2
        go_ret
        refine ⟨ret_bool ?_, (by repeat (first | with_reducible exact Gro.refl _ | with_reducible exact Gro.refl_drew _ _ _ | with_reducible exact Gro.refl_drewN _ _ _ _ | assumption | with_reducible apply Gro.more | with_reducible apply Gro.alloc | with_reducible apply Gro.drew | with_reducible apply Gro.drewN))⟩
        have : k = xs.length := by omega
        subst this
        have h1 := HT.out
        rw [HL.out] at h1
        simp only [List.take_length] at h1
        rw [← HL.out] at h1
        simp at h1
        simp [h1]
  · have hne : ((xs.length : Int) != (ys.length : Int)) = true := by simp; omega
    go_enter Try.func116, Try.ntmps116
    go_wp2
    go_ret
    exact ⟨ret_bool (by symm; simp only [decide_eq_false_iff_not]; rintro rfl; exact hl rfl), Gro.refl _⟩
set_option maxRecDepth 100000 in
set_option maxHeartbeats 2000000 in
theorem markSymbolS_l {xs : List DSymbol} {w : World} {A : Option Addr} {n c : Nat} {k : Int} {S : List Nat} (hO : (tSymbol.sl 118).O w [.slice A n c] xs S) (hS : S.Nodup) (h0 : 0 < k) (h1 : k + cntSymbolS xs ≤ 1099511627776) :
    Calls Try.prog 93 #[.slice A n c, .int .i64 k] w fun e w' => e = .returned (.int .i64 (k + cntSymbolS xs)) ∧ (tSymbol.sl 118).O w' [.slice A n c] (mkSymbolS xs k) S ∧ OnlyS S w w' := by
  obtain ⟨_, _, hx, h2, h3⟩ := sl_at (Ty.read _ hO)
  injection hx with hA hn hc
  subst hA hn hc
  clear h3
  unfold cntSymbolS at h1 ⊢
  go_enter Try.func93, Try.ntmps93
  go_wp2_with (fail)
  go_loopw [1, 5] (fun a i wr => ∃ (j : Nat), j ≤ xs.length ∧ a = .int .i64 (k + j * 3) ∧ i = .int .i64 j ∧ Hid ((tSymbol.sl 118).O wr [.slice A xs.length c] (mkTo mkESymbol (fun _ => 3) xs k j) S) ∧ Hid (OnlyS S w wr)) (fun _ i _ => xs.length - (intOf i).toNat)
  case atStart => exact ⟨0, Nat.zero_le _, by simp, rfl, Lib.hid (by rw [mkTo_zero]; exact hO), OnlyS.refl _ _⟩
  case round =>
    obtain ⟨j, hj, rfl, rfl, ho, hs⟩ := hrel
    by_cases hlt : j < xs.length
    · have hxj : xs[j]? = some xs[j] := List.getElem?_eq_getElem hlt
      obtain ⟨g, ec, Sc, rfl, hgS, hgl, hgc, hSc, hO1, hfz, hcell, hset⟩ := own_put ho.out hS (mkTo_get hxj k)
      generalize hxe : xs[j] = x at hxj hO1
      clear hxe
      obtain ⟨rfl, rfl, _, _, _⟩ := tSymbol_O hO1
      have hc0 := hcell 0 _ rfl
      have hc1 := hcell 1 _ rfl
      have hc2 := hcell 2 _ rfl
      simp only [Nat.add_zero, show tSymbol.size = 3 from rfl] at hc0 hc1 hc2
      have hf0 := hfz (j * 3)
      have hf1 := hfz (j * 3 + 1)
      have hf2 := hfz (j * 3 + 2)
      have HX := Lib.hid hxj
      have HS := Lib.hid hset
      clear hcell hset hfz hxj hO hO1
      go_wp2_with (first | (go_at_call 92; refine (markText_l _ (by omega) (by omega) _).mono ?_; rintro e w1 ⟨rfl, os, d, rfl⟩))
      go_roundw
      case rel =>
        have h := HS.out [.string (markTx (k + j * 3)), .int .i64 (k + j * 3 + 1), .int .i64 (k + j * 3 + 1 + 1)] (mkESymbol x (k + j * 3)) (tSymbol_mkOd (x := mkESymbol x (k + j * 3)) (markTx_size _ (by omega) (by omega)) (show I64 (k + j * 3 + 1) from ⟨by omega, by omega⟩) (show I64 (k + j * 3 + 1 + 1) from ⟨by omega, by omega⟩))
        have e := mkTo_set (mk := mkESymbol) (cnt := fun _ => 3) HX.out k
        rw [cntL_const_take 3 (by omega), Int.natCast_mul] at e
        rw [show mkESymbol x (k + j * 3) = mkESymbol x (k + (j : Int) * ((3 : Nat) : Int)) from rfl, e] at h
        exact ⟨j + 1, by omega, by go_num, by go_num, Lib.hid (Ty.groO _ h.1 (Gro.of _ _ _)), Lib.hid ((hs.out.trans h.2).trans ((Gro.of _ _ _).only _))⟩
      case measure => simp [intOf]; omega
    · go_wp2
      have : j = xs.length := by omega
      subst this
      have ho' := ho.out
      rw [mkTo_all] at ho'
      go_ret
      exact ⟨rfl, ho', hs.out⟩
set_option maxRecDepth 100000 in
set_option maxHeartbeats 2000000 in
theorem heldSymbolS_l {xs : List DSymbol} {w : World} {v : Value} {k : Int} (hx : (tSymbol.sl 118).R w w.heap.size [v] (mkSymbolS xs k)) (h0 : 0 < k) (h1 : k + cntSymbolS xs ≤ 1099511627776) :
    Calls Try.prog 117 #[v, .int .i64 k] w fun e w' => e = .returned (.int .i64 (k + cntSymbolS xs)) ∧ Gro w w' := by
  obtain ⟨A, c, rfl, h2, h3⟩ := sl_at hx
  have hlen : (mkSymbolS xs k).length = xs.length := mkL_length _ _
  rw [hlen] at h2 hx ⊢
  have HL := Lib.hid hlen
  clear hlen
  unfold cntSymbolS at h1 ⊢
  go_enter Try.func117, Try.ntmps117
  go_wp2_with (fail)
  go_loopw [1, 5] (fun a i wr => ∃ (j : Nat), j ≤ xs.length ∧ a = .int .i64 (k + j * 3) ∧ i = .int .i64 j ∧ Hid (Gro w wr)) (fun _ i _ => xs.length - (intOf i).toNat)
  case atStart => exact ⟨0, Nat.zero_le _, by simp, rfl, Gro.refl _⟩
  case round =>
    obtain ⟨j, hj, rfl, rfl, hG⟩ := hrel
    obtain ⟨os, d, rfl⟩ := hG.out
    clear hG
    by_cases hlt : j < xs.length
    · obtain ⟨g, off, x, rfl, hgb, hxk, hx0, hx1, hx2, bx0, bx1, bx2⟩ := atSymbol hx (k := j) (by rw [HL.out]; exact hlt)
      have hxe : x = mkESymbol xs[j] (k + j * 3) := by
        have := mkL_get (mk := mkESymbol) (cnt := fun _ => 3) (List.getElem?_eq_getElem hlt) k
        rw [cntL_const_take 3 (by omega), Int.natCast_mul] at this
        exact Option.some.inj (hxk.symm.trans this)
      clear hxk hx
      subst hxe
      simp only [mkESymbol] at hx0 hx1 hx2
      go_wp2_with (fail)
      go_region_held3 (fun w' => w'.cell? ⟨g, off + j * 3, none⟩ = some (.string (markTx (k + j * 3)))) ((repeat' apply And.intro) <;> (first | ((repeat (first | assumption | with_reducible refine gro_keeps ?_ _ _ | with_reducible refine alloc_keeps ?_ _ | with_reducible refine drew_keeps ?_)); done) | (simp [go_sem]; done))) (first
        | (go_at_call 92; refine (markText_l _ (by omega) (by omega) _).mono ?_; rintro e w1 ⟨rfl, os1, d1, rfl⟩))
      go_wp2_with (fail)
      go_roundw
      case rel => exact ⟨j + 1, by omega, by go_num, by go_num, Lib.hid (by repeat (first | with_reducible exact Gro.refl _ | with_reducible exact Gro.refl_drew _ _ _ | with_reducible exact Gro.refl_drewN _ _ _ _ | assumption | with_reducible apply Gro.more | with_reducible apply Gro.alloc | with_reducible apply Gro.drew | with_reducible apply Gro.drewN))⟩
      case measure => simp [intOf]; omega
    · go_wp2
      have : j = xs.length := by omega
      subst this
      go_ret
      exact ⟨ret_int (by push_cast; rfl), (by repeat (first | with_reducible exact Gro.refl _ | with_reducible exact Gro.refl_drew _ _ _ | with_reducible exact Gro.refl_drewN _ _ _ _ | assumption | with_reducible apply Gro.more | with_reducible apply Gro.alloc | with_reducible apply Gro.drew | with_reducible apply Gro.drewN))⟩
end Go.Proofs.Ytbhobjepjaeffaa
namespace Go.Proofs.Ytbhobjepjaeffaa
open Go.RowKit
def RetImage (x : DImage) (w : World) (r : Ending) (w' : World) : Prop := ∃ A0 c0, r = .returned (.agg #[.string x.Code, .slice A0 x.Symbols.length c0]) ∧ Fresh tImage w w' [.string x.Code, .slice A0 x.Symbols.length c0] x ∧ Gro w w'
theorem tImage_mkOd {w : World} {x : DImage} {A0 : Option Addr} {c0 : Nat} {S1 : List Nat} (h0 : x.Code.size ≤ 9223372036854775807) (h1 : (tSymbol.sl 118).O w [.slice A0 x.Symbols.length c0] x.Symbols S1) : tImage.O w [.string x.Code, .slice A0 x.Symbols.length c0] x (S1) := by
  have h : tImage.O w [.string x.Code, .slice A0 x.Symbols.length c0] x ([] ++ S1) := ⟨[.string x.Code], [.slice A0 x.Symbols.length c0], [], S1, rfl, rfl, ⟨rfl, h0, rfl⟩, h1⟩
  simpa using h
theorem tImage_fresh {w W : World} {x : DImage} {A0 : Option Addr} {c0 : Nat} {u1 : World} {m1 : Nat} (h0 : x.Code.size ≤ 9223372036854775807) (h1 : Fre (tSymbol.sl 118) u1 m1 W [.slice A0 x.Symbols.length c0] x.Symbols) (hw1 : w.heap.size ≤ u1.heap.size) : Fresh tImage w W [.string x.Code, .slice A0 x.Symbols.length c0] x := by
  obtain ⟨S1, hO1, hN1, hI1⟩ := h1
  exact ⟨_, tImage_mkOd h0 hO1, hN1, fun b hb => (by have := hI1 b hb; omega)⟩
theorem eq_DImage {x y : DImage} : x = y ↔ x.Code = y.Code ∧ x.Symbols = y.Symbols := by
  cases x
  cases y
  simp
def szImage (x : DImage) : Nat := x.Code.size + szL szSymbol x.Symbols
set_option maxRecDepth 100000 in
theorem toImage_l {x : DImage} {w : World} {A0 : Option Addr} {c0 : Nat} (h0 : x.Code.size ≤ 9223372036854775807) (h1 : (tSymbol.sl 118).R w w.heap.size [.slice A0 x.Symbols.length c0] x.Symbols) (hn : szImage x ≤ 1099511627776) : Calls Try.prog 90 #[.agg #[.string x.Code, .slice A0 x.Symbols.length c0]] w (RetImage x w) := by
  unfold szImage at hn
  go_enter Try.func90, Try.ntmps90
  go_wp2_with (first
      | (go_at_call 115; (with_reducible refine (toSymbolS_l (xs := x.Symbols) (Ty.up _ h1 (by repeat (first | with_reducible exact Gro.refl _ | with_reducible exact Gro.refl_drew _ _ _ | with_reducible exact Gro.refl_drewN _ _ _ _ | assumption | with_reducible apply Gro.more | with_reducible apply Gro.alloc | with_reducible apply Gro.drew | with_reducible apply Gro.drewN))) (by omega)).mono ?_); rintro e w1 ⟨B0, d0, rfl, hF1, os1, dd1, rfl⟩))
  refine bodyPost_ret (v := .agg #[.string x.Code, .slice B0 x.Symbols.length d0]) (by simp [results, Try.results90, go_sem]) rfl ⟨B0, d0, rfl, ?_, (by repeat (first | with_reducible exact Gro.refl _ | with_reducible exact Gro.refl_drew _ _ _ | with_reducible exact Gro.refl_drewN _ _ _ _ | assumption | with_reducible apply Gro.more | with_reducible apply Gro.alloc | with_reducible apply Gro.drew | with_reducible apply Gro.drewN))⟩
  obtain ⟨S1, hO1, hN1, hL1⟩ := hF1
  have hU1 := Ty.ltO _ hO1
  have hL1' := hL1
  simp at hL1' hU1
  exact ⟨_, tImage_mkOd h0 (Ty.same _ hO1 hL1 (by repeat (first | with_reducible exact Same.refl _ _ _ | ((with_reducible refine Same.base ?_ ?_) <;> (simp <;> omega)) | ((with_reducible refine Same.more ?_ ?_ _ _); rotate_left; simp <;> omega) | ((with_reducible refine Same.alloc ?_ ?_ _); rotate_left; simp <;> omega) | with_reducible apply Same.drew | with_reducible apply Same.drewN))), hN1, fun b hb => (by have := hL1' b hb; omega)⟩
set_option maxRecDepth 100000 in
theorem szImage_l {x : DImage} {w : World} {left : Int} {A0 : Option Addr} {c0 : Nat} (h0 : x.Code.size ≤ 9223372036854775807) (h1 : (tSymbol.sl 118).R w w.heap.size [.slice A0 x.Symbols.length c0] x.Symbols) (h00 : 0 ≤ left) (h01 : left ≤ 1099511627776) : Calls Try.prog 88 #[.agg #[.string x.Code, .slice A0 x.Symbols.length c0], .int .i64 left] w fun e w' => e = .returned (.int .i64 (szRes left (szImage x))) ∧ Gro w w' := by
  obtain ⟨n0, hn0⟩ : ∃ n, x.Code.size = n := ⟨_, rfl⟩
  obtain ⟨n1, hn1⟩ : ∃ n, szL szSymbol x.Symbols = n := ⟨_, rfl⟩
  have HS := Lib.hid (show szImage x = n0 + n1 from by unfold szImage; rw [hn0, hn1])
  have HN0 := Lib.hid hn0
  clear hn0
  have HN1 := Lib.hid hn1
  clear hn1
  by_cases c0' : (n0 : Int) ≤ left
  · skip
    by_cases c1' : (n0 : Int) + (n1 : Int) ≤ left
    · skip
      have hx0 : x.Code.size = n0 := HN0.out
      have e1 : szRes (left - (n0 : Nat)) n1 = left - (n0 : Nat) - (n1 : Nat) := if_pos (by omega)
      go_enter Try.func88, Try.ntmps88
      go_wp2_with (first
      | (go_at_call 114; (with_reducible refine (szSymbolS_l (xs := x.Symbols) (Ty.up _ h1 (by repeat (first | with_reducible exact Gro.refl _ | with_reducible exact Gro.refl_drew _ _ _ | with_reducible exact Gro.refl_drewN _ _ _ _ | assumption | with_reducible apply Gro.more | with_reducible apply Gro.alloc | with_reducible apply Gro.drew | with_reducible apply Gro.drewN))) (by omega) (by omega)).mono ?_); rintro e w1 ⟨rfl, os1, d1, rfl⟩; rw [HN1.out]))
      go_ret
      exact ⟨ret_int (by rw [HS.out]; unfold szRes; rw [if_pos (by omega)] <;> omega), (by repeat (first | with_reducible exact Gro.refl _ | with_reducible exact Gro.refl_drew _ _ _ | with_reducible exact Gro.refl_drewN _ _ _ _ | assumption | with_reducible apply Gro.more | with_reducible apply Gro.alloc | with_reducible apply Gro.drew | with_reducible apply Gro.drewN))⟩
    · have hx0 : x.Code.size = n0 := HN0.out
      have e1 : szRes (left - (n0 : Nat)) n1 = -1 := if_neg (by omega)
      go_enter Try.func88, Try.ntmps88
      go_wp2_with (first
      | (go_at_call 114; (with_reducible refine (szSymbolS_l (xs := x.Symbols) (Ty.up _ h1 (by repeat (first | with_reducible exact Gro.refl _ | with_reducible exact Gro.refl_drew _ _ _ | with_reducible exact Gro.refl_drewN _ _ _ _ | assumption | with_reducible apply Gro.more | with_reducible apply Gro.alloc | with_reducible apply Gro.drew | with_reducible apply Gro.drewN))) (by omega) (by omega)).mono ?_); rintro e w1 ⟨rfl, os1, d1, rfl⟩; rw [HN1.out]))
      go_ret
      exact ⟨ret_int (by rw [HS.out]; unfold szRes; rw [if_neg (by omega)]), (by repeat (first | with_reducible exact Gro.refl _ | with_reducible exact Gro.refl_drew _ _ _ | with_reducible exact Gro.refl_drewN _ _ _ _ | assumption | with_reducible apply Gro.more | with_reducible apply Gro.alloc | with_reducible apply Gro.drew | with_reducible apply Gro.drewN))⟩
  · have hx0 : x.Code.size = n0 := HN0.out
    go_enter Try.func88, Try.ntmps88
    go_wp2
    go_ret
    exact ⟨ret_int (by rw [HS.out]; unfold szRes; rw [if_neg (by omega)]), (by repeat (first | with_reducible exact Gro.refl _ | with_reducible exact Gro.refl_drew _ _ _ | with_reducible exact Gro.refl_drewN _ _ _ _ | assumption | with_reducible apply Gro.more | with_reducible apply Gro.alloc | with_reducible apply Gro.drew | with_reducible apply Gro.drewN))⟩
set_option maxRecDepth 100000 in
theorem eqImage_l {x y : DImage} {w : World} {A0 : Option Addr} {c0 : Nat} {B0 : Option Addr} {d0 : Nat} (h1 : (tSymbol.sl 118).R w w.heap.size [.slice A0 x.Symbols.length c0] x.Symbols) (k1 : (tSymbol.sl 118).R w w.heap.size [.slice B0 y.Symbols.length d0] y.Symbols) : Calls Try.prog 91 #[.agg #[.string x.Code, .slice A0 x.Symbols.length c0], .agg #[.string y.Code, .slice B0 y.Symbols.length d0]] w fun e w' => e = .returned (.bool (decide (x = y))) ∧ Gro w w' := by
  go_enter Try.func91, Try.ntmps91
  go_wp2_with (first
      | (go_at_call 116; (with_reducible refine (eqSymbolS_l (xs := x.Symbols) (ys := y.Symbols) (Ty.up _ h1 (by repeat (first | with_reducible exact Gro.refl _ | with_reducible exact Gro.refl_drew _ _ _ | with_reducible exact Gro.refl_drewN _ _ _ _ | assumption | with_reducible apply Gro.more | with_reducible apply Gro.alloc | with_reducible apply Gro.drew | with_reducible apply Gro.drewN))) (Ty.up _ k1 (by repeat (first | with_reducible exact Gro.refl _ | with_reducible exact Gro.refl_drew _ _ _ | with_reducible exact Gro.refl_drewN _ _ _ _ | assumption | with_reducible apply Gro.more | with_reducible apply Gro.alloc | with_reducible apply Gro.drew | with_reducible apply Gro.drewN)))).mono ?_); rintro e w1 ⟨rfl, os1, d1, rfl⟩))
  all_goals
    go_ret
    refine ⟨ret_bool ?_, (by repeat (first | with_reducible exact Gro.refl _ | with_reducible exact Gro.refl_drew _ _ _ | with_reducible exact Gro.refl_drewN _ _ _ _ | assumption | with_reducible apply Gro.more | with_reducible apply Gro.alloc | with_reducible apply Gro.drew | with_reducible apply Gro.drewN))⟩
    simp_all [eq_DImage, toList_inj']
end Go.Proofs.Ytbhobjepjaeffaa
