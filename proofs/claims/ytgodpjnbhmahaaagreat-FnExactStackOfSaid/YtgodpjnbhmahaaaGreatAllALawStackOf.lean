/-
  PART 1 of the texts of this claim, one behind the other: contracts and laws that the last part uses.
-/
import Derived.WalkKit
import Derived.ProofKit
import Derived.OpenShut
import Derived.WalkSpells
import Derived.Below
import Derived.Carry
import Derived.ChangeOld
import Derived.Lib.Hide
import Derived.Maps.AppendAt
import Derived.Deep.AppendLies
import Derived.Deep.Draws
import Derived.Deep.Slices
import Derived.Deep.Fields
import Derived.Laws.OwnMore
import Derived.Laws.MakeOwn
import Derived.Laws.NewBlocks
import Derived.OwnWalk
import Derived.Test.YtgodpjnbhmahaaaGreatProg
import Derived.KernelRfl
import Derived.BigQuiet
import Derived.BigRegion
import Derived.Deep.QuietTactic
import Derived.RegionTactic
import Derived.Deep.RegionHeld3
set_option linter.unusedVariables false
set_option linter.unusedSimpArgs false
namespace Go.Proofs.YtgodpjnbhmahaaaGreat
open Go.RowKit
/-! ### the world with new blocks and draws -/
def gro (w : World) (os : Array Obj) (d : Nat) : World := { w with heap := w.heap ++ os, drawn := d }
section
variable {w : World}
theorem gro_get (os : Array Obj) (d n : Nat) (hn : n < w.heap.size) : (gro w os d).heap[n]? = w.heap[n]? := by
  simp only [gro]
  exact Array.getElem?_append_left hn
@[simp, go_sem] theorem gro_size (os : Array Obj) (d : Nat) : (gro w os d).heap.size = w.heap.size + os.size := by simp [gro]
@[go_sem] theorem gro_tape (os : Array Obj) (d : Nat) : (gro w os d).tape = w.tape := rfl
@[go_sem] theorem gro_cell (os : Array Obj) (d n i : Nat) (hn : n < w.heap.size) : (gro w os d).cell? ⟨n, i, none⟩ = w.cell? ⟨n, i, none⟩ := by
  simp only [World.cell?, gro_get os d n hn]
@[go_sem] theorem gro_frozen (os : Array Obj) (d n i : Nat) (hn : n < w.heap.size) : (gro w os d).frozen? ⟨n, i, none⟩ = w.frozen? ⟨n, i, none⟩ := by
  simp only [World.frozen?, gro_get os d n hn]
@[go_sem] theorem gro_setCell (os : Array Obj) (d n i : Nat) (v : Value) (hn : n < w.heap.size) : (gro w os d).setCell ⟨n, i, none⟩ v = gro (w.setCell ⟨n, i, none⟩ v) os d := by
  unfold World.setCell gro
  congr 1
  apply Array.ext_getElem?
  intro k
  simp only [Array.getElem?_modify, Array.getElem?_append, Array.size_modify]
  by_cases hk : k = n
  · subst hk
    simp [hn]
  · have hk' : ¬ n = k := fun e => hk e.symm
    simp [hk']
theorem gro_gro (os os' : Array Obj) (d d' : Nat) : gro (gro w os d) os' d' = gro w (os ++ os') d' := by
  simp [gro]
@[go_sem] theorem gro_at_drew (os : Array Obj) (d : Nat) : gro w.drew os d = gro w os d := rfl
@[go_sem] theorem gro_at_drewN (n : Nat) (os : Array Obj) (d : Nat) : gro (w.drewN n) os d = gro w os d := rfl
theorem gro_of_alloc (o : Obj) : w.alloc o = gro w #[o] w.drawn := by
  unfold gro World.alloc
  simp
theorem gro_of_drew : w.drew = gro w #[] (w.drawn + 1) := by
  unfold gro World.drew
  simp
theorem gro_refl : w = gro w #[] w.drawn := by simp [gro]
end
@[go_sem] theorem lt_left_add {a b c : Nat} (h : a < b) : (a < b + c) = True := by simp; omega
@[go_sem] theorem setCell_drewN (w : World) (n : Nat) (p : Addr) (v : Value) : (w.drewN n).setCell p v = (w.setCell p v).drewN n := rfl
@[go_sem] theorem alloc_drewN (w : World) (n : Nat) (o : Obj) : (w.drewN n).alloc o = (w.alloc o).drewN n := rfl
/-- block n lies in w: shown by rules without conditions (simp's depth of conditions is small) -/
def InW (n : Nat) (w : World) : Prop := n < w.heap.size
@[go_sem] theorem inW_alloc (n : Nat) (w : World) (o : Obj) : InW n (w.alloc o) = (n = w.heap.size ∨ InW n w) := by
  unfold InW
  rw [World.size_alloc]
  exact propext ⟨fun h => by omega, fun h => by omega⟩
@[go_sem] theorem inW_gro (n : Nat) (w : World) (os : Array Obj) (d : Nat) : InW n (gro w os d) = (InW n w ∨ (w.heap.size ≤ n ∧ n < w.heap.size + os.size)) := by
  unfold InW
  rw [gro_size]
  exact propext ⟨fun h => by omega, fun h => by omega⟩
@[go_sem] theorem inW_drew (n : Nat) (w : World) : InW n w.drew = InW n w := rfl
@[go_sem] theorem inW_drewN (n k : Nat) (w : World) : InW n (w.drewN k) = InW n w := rfl
@[go_sem] theorem inW_setCell (n : Nat) (w : World) (p : Addr) (v : Value) : InW n (w.setCell p v) = InW n w := by
  unfold InW
  rw [World.size_setCell]
@[go_sem] theorem inW_of {n : Nat} {w : World} (h : n < w.heap.size) : InW n w = True := eq_true h
section
variable {w : World}
@[go_sem] theorem cell_alloc_in (o : Obj) (n i : Nat) (hn : InW n w) : (w.alloc o).cell? ⟨n, i, none⟩ = w.cell? ⟨n, i, none⟩ := World.cell?_alloc_past o n i hn
@[go_sem] theorem frozen_alloc_in (o : Obj) (n i : Nat) (hn : InW n w) : (w.alloc o).frozen? ⟨n, i, none⟩ = w.frozen? ⟨n, i, none⟩ := World.frozen?_alloc_past o n i hn
@[go_sem] theorem setCell_alloc_in (o : Obj) (n i : Nat) (v : Value) (hn : InW n w) : (w.alloc o).setCell ⟨n, i, none⟩ v = (w.setCell ⟨n, i, none⟩ v).alloc o := World.setCell_alloc_past o n i v hn
@[go_sem] theorem cell_gro_in (os : Array Obj) (d n i : Nat) (hn : InW n w) : (gro w os d).cell? ⟨n, i, none⟩ = w.cell? ⟨n, i, none⟩ := gro_cell os d n i hn
@[go_sem] theorem frozen_gro_in (os : Array Obj) (d n i : Nat) (hn : InW n w) : (gro w os d).frozen? ⟨n, i, none⟩ = w.frozen? ⟨n, i, none⟩ := gro_frozen os d n i hn
@[go_sem] theorem setCell_gro_in (os : Array Obj) (d n i : Nat) (v : Value) (hn : InW n w) : (gro w os d).setCell ⟨n, i, none⟩ v = gro (w.setCell ⟨n, i, none⟩ v) os d := gro_setCell os d n i v hn
end
/-- new blocks, draws, and nothing else -/
def Gro (w w' : World) : Prop := ∃ os d, w' = gro w os d
theorem Gro.refl (w : World) : Gro w w := ⟨_, _, gro_refl⟩
theorem Gro.refl_drew (a : World) (os : Array Obj) (d : Nat) : Gro (gro a.drew os d) (gro a os d) := Gro.refl (gro a os d)
theorem Gro.refl_drewN (a : World) (n : Nat) (os : Array Obj) (d : Nat) : Gro (gro (a.drewN n) os d) (gro a os d) := Gro.refl (gro a os d)
theorem Gro.of (w : World) (os : Array Obj) (d : Nat) : Gro w (gro w os d) := ⟨_, _, rfl⟩
theorem Gro.trans {a b c : World} (h : Gro a b) (k : Gro b c) : Gro a c := by
  obtain ⟨o, d, rfl⟩ := h
  obtain ⟨o', d', rfl⟩ := k
  exact ⟨_, _, gro_gro _ _ _ _⟩
theorem Gro.alloc {a b : World} (h : Gro a b) (o : Obj) : Gro a (b.alloc o) := h.trans ⟨_, _, gro_of_alloc o⟩
theorem Gro.drew {a b : World} (h : Gro a b) : Gro a b.drew := h.trans ⟨_, _, gro_of_drew⟩
theorem Gro.more {a b : World} (h : Gro a b) (os : Array Obj) (d : Nat) : Gro a (gro b os d) := h.trans ⟨_, _, rfl⟩
theorem Gro.size {a b : World} (h : Gro a b) : a.heap.size ≤ b.heap.size := by
  obtain ⟨o, d, rfl⟩ := h
  rw [gro_size]
  omega
theorem Gro.block {a b : World} (h : Gro a b) {k : Nat} (hk : k < a.heap.size) : b.heap[k]? = a.heap[k]? := by
  obtain ⟨o, d, rfl⟩ := h
  exact gro_get _ _ _ hk
theorem Gro.below {a b : World} (h : Gro a b) : Below a.heap.size a b := by
  obtain ⟨o, d, rfl⟩ := h
  exact ⟨rfl, rfl, rfl, by simp [gro], fun k hk => gro_get _ _ _ hk⟩
theorem Gro.of_below {a b : World} (h : Below a.heap.size a b) : Gro a b := by
  refine ⟨b.heap.extract a.heap.size b.heap.size, b.drawn, ?_⟩
  have hh : b.heap = a.heap ++ b.heap.extract a.heap.size b.heap.size := by
    apply Array.ext_getElem?
    intro k
    rw [Array.getElem?_append]
    split
    · rename_i hk
      exact h.block k hk
    · rename_i hk
      rw [Array.getElem?_extract]
      have := h.size
      split
      · congr 1
        omega
      · rw [Array.getElem?_eq_none]
        omega
  unfold gro
  rw [← hh]
  have h1 := h.os
  have h2 := h.tape
  have h3 := h.output
  cases a
  cases b
  simp only at h1 h2 h3
  subst h1 h2 h3
  rfl
/-- behind a law that ends in 'grownBy': the row that may have turned lies beyond W0 -/
theorem Gro.grown {W0 W w' : World} {row : Option Nat} (h : Gro W0 W) (hg : W.grownBy w' row) (hr : ∀ k, row = some k → W0.heap.size ≤ k) : Gro W0 w' :=
  Gro.of_below (h.below.grown hg h.size hr)
theorem Gro.setRow {W0 W : World} (h : Gro W0 W) {p : Addr} (hp : W0.heap.size ≤ p.block) (u : Value) : Gro W0 (W.setCell p u) :=
  Gro.of_below (h.below.setCell hp u)

/-- the blocks from n to m are the same -/
def Same (n m : Nat) (w w' : World) : Prop := ∀ k, n ≤ k → k < m → w'.heap[k]? = w.heap[k]?
theorem Same.refl (n m : Nat) (w : World) : Same n m w w := fun _ _ _ => rfl
theorem Same.base {a b : World} {os : Array Obj} {d d' n m : Nat} (h : b.heap.size = a.heap.size) (hn : a.heap.size ≤ n) : Same n m (gro a os d) (gro b os d') := by
  intro k hk _
  simp only [Go.Proofs.YtgodpjnbhmahaaaGreat.gro]
  rw [Array.getElem?_append_right (by omega), Array.getElem?_append_right (by omega), h]
theorem Same.more {n m : Nat} {a b : World} (h : Same n m a b) (hm : m ≤ b.heap.size) (os : Array Obj) (d : Nat) : Same n m a (Go.Proofs.YtgodpjnbhmahaaaGreat.gro b os d) :=
  fun k h1 h2 => (gro_get os d k (by omega)).trans (h k h1 h2)
theorem Same.alloc {n m : Nat} {a b : World} (h : Same n m a b) (hm : m ≤ b.heap.size) (o : Obj) : Same n m a (b.alloc o) :=
  fun k h1 h2 => (Below.heap_alloc b o k (by omega)).trans (h k h1 h2)
theorem Same.drew {n m : Nat} {a b : World} (h : Same n m a b) : Same n m a b.drew := h
theorem Same.drewN {n m k : Nat} {a b : World} (h : Same n m a b) : Same n m a (b.drewN k) := h
theorem Same.gro {n : Nat} {a b : World} (h : Gro a b) : Same n a.heap.size a b := fun _ _ h2 => h.block h2
/-! ### only the blocks of S have turned -/
structure OnlyS (S : List Nat) (w w' : World) : Prop where
  os : w'.os = w.os
  tape : w'.tape = w.tape
  output : w'.output = w.output
  size : w.heap.size ≤ w'.heap.size
  block : ∀ k, k < w.heap.size → k ∉ S → w'.heap[k]? = w.heap[k]?
theorem OnlyS.refl (S : List Nat) (w : World) : OnlyS S w w := ⟨rfl, rfl, rfl, Nat.le_refl _, fun _ _ _ => rfl⟩
theorem OnlyS.trans {S : List Nat} {a b c : World} (h : OnlyS S a b) (k : OnlyS S b c) : OnlyS S a c :=
  ⟨k.os.trans h.os, k.tape.trans h.tape, k.output.trans h.output, Nat.le_trans h.size k.size, fun i hi hn => (k.block i (Nat.lt_of_lt_of_le hi h.size) hn).trans (h.block i hi hn)⟩
theorem OnlyS.mono {S S' : List Nat} {a b : World} (h : OnlyS S a b) (hs : ∀ k ∈ S, k ∈ S') : OnlyS S' a b :=
  ⟨h.os, h.tape, h.output, h.size, fun i hi hn => h.block i hi (fun hm => hn (hs i hm))⟩
theorem Gro.only {a b : World} (h : Gro a b) (S : List Nat) : OnlyS S a b := by
  have hb := h.below
  exact ⟨hb.os, hb.tape, hb.output, hb.size, fun k hk _ => hb.block k hk⟩
theorem OnlyS.setCell {S : List Nat} {a b : World} (h : OnlyS S a b) {p : Addr} (hp : p.block ∈ S) (u : Value) : OnlyS S a (b.setCell p u) :=
  h.trans ⟨rfl, rfl, rfl, by simp, fun k _ hn => Below.heap_setCell _ _ _ _ (fun e => hn (by rw [e]; exact hp))⟩
theorem OnlyS.cell {S : List Nat} {a b : World} (h : OnlyS S a b) {g : Nat} (hg : g < a.heap.size) (hn : g ∉ S) (i : Nat) : b.cell? ⟨g, i, none⟩ = a.cell? ⟨g, i, none⟩ :=
  World.cell?_of_block (h.block g hg hn)
theorem OnlyS.gro {S : List Nat} {W0 a b : World} (h : OnlyS S a b) (hg : Gro W0 a) (hs : ∀ k ∈ S, W0.heap.size ≤ k) : Gro W0 b :=
  Gro.of_below ⟨h.os.trans hg.below.os, h.tape.trans hg.below.tape, h.output.trans hg.below.output, Nat.le_trans hg.size h.size, fun k hk =>
    (h.block k (Nat.lt_of_lt_of_le hk hg.size) (fun hm => by have := hs k hm; omega)).trans (hg.block hk)⟩

/-! ### how a Go type's cells read -/
structure Ty (α : Type) where
  size : Nat
  R : World → Nat → List Value → α → Prop
  O : World → List Value → α → List Nat → Prop
  lenR : ∀ {w B cs x}, R w B cs x → cs.length = size
  lenO : ∀ {w cs x S}, O w cs x S → cs.length = size
  oneO : ∀ {w cs x S}, O w cs x S → ∀ u ∈ cs, u.oneCell' = true
  oneR : ∀ {w B cs x}, R w B cs x → ∀ u ∈ cs, u.oneCell' = true
  keepR : ∀ {w w' B B' cs x}, R w B cs x → (∀ k, k < B → w'.heap[k]? = w.heap[k]?) → B ≤ B' → R w' B' cs x
  keepO : ∀ {w w' cs x S}, O w cs x S → (∀ k ∈ S, w'.heap[k]? = w.heap[k]?) → O w' cs x S
  ltO : ∀ {w cs x S}, O w cs x S → ∀ k ∈ S, k < w.heap.size
  OR : ∀ {w cs x S B}, O w cs x S → (∀ k ∈ S, k < B) → R w B cs x
theorem Ty.gro {α : Type} (T : Ty α) {w w' : World} {B : Nat} {cs : List Value} {x : α} (h : T.R w B cs x) (hg : Gro w w') (hB : B ≤ w.heap.size) : T.R w' B cs x :=
  T.keepR h (fun _ hk => hg.block (by omega)) (Nat.le_refl _)
theorem Ty.up {α : Type} (T : Ty α) {w w' : World} {cs : List Value} {x : α} (h : T.R w w.heap.size cs x) (hg : Gro w w') : T.R w' w'.heap.size cs x :=
  T.keepR h (fun _ hk => hg.block hk) hg.size
theorem Ty.groO {α : Type} (T : Ty α) {w w' : World} {cs : List Value} {x : α} {S : List Nat} (h : T.O w cs x S) (hg : Gro w w') : T.O w' cs x S :=
  T.keepO h fun _ hk => hg.block (T.ltO h _ hk)
theorem Ty.same {α : Type} (T : Ty α) {w w' : World} {cs : List Value} {x : α} {S : List Nat} {n : Nat} (h : T.O w cs x S) (hL : ∀ b ∈ S, n ≤ b) (hs : Same n w.heap.size w w') : T.O w' cs x S :=
  T.keepO h fun k hk => hs k (hL k hk) (T.ltO h k hk)
theorem Ty.read {α : Type} (T : Ty α) {w : World} {cs : List Value} {x : α} {S : List Nat} (h : T.O w cs x S) : T.R w w.heap.size cs x := T.OR h (T.ltO h)

/-- fits int64 -/
def I64 (x : Int) : Prop := -9223372036854775808 ≤ x ∧ x ≤ 9223372036854775807
/-- an int -/
def intT : Ty Int where
  size := 1
  R := fun _ _ cs x => cs = [.int .i64 x] ∧ -9223372036854775808 ≤ x ∧ x ≤ 9223372036854775807
  O := fun _ cs x S => cs = [.int .i64 x] ∧ -9223372036854775808 ≤ x ∧ x ≤ 9223372036854775807 ∧ S = []
  lenR := by rintro _ _ _ _ ⟨rfl, _⟩; rfl
  lenO := by rintro _ _ _ _ ⟨rfl, _⟩; rfl
  oneO := by rintro _ _ _ _ ⟨rfl, _⟩ u hu; simp at hu; subst hu; rfl
  oneR := by rintro _ _ _ _ ⟨rfl, _⟩ u hu; simp at hu; subst hu; rfl
  keepR := by rintro _ _ _ _ _ _ h _ _; exact h
  keepO := by rintro _ _ _ _ _ h _; exact h
  ltO := by rintro _ _ _ _ ⟨_, _, _, rfl⟩ k hk; simp at hk
  OR := by rintro _ _ _ _ _ ⟨h1, h2, h3, _⟩ _; exact ⟨h1, h2, h3⟩
/-- a bool -/
def boolT : Ty Bool where
  size := 1
  R := fun _ _ cs x => cs = [.bool x]
  O := fun _ cs x S => cs = [.bool x] ∧ S = []
  lenR := by rintro _ _ _ _ rfl; rfl
  lenO := by rintro _ _ _ _ ⟨rfl, _⟩; rfl
  oneO := by rintro _ _ _ _ ⟨rfl, _⟩ u hu; simp at hu; subst hu; rfl
  oneR := by rintro _ _ _ _ rfl u hu; simp at hu; subst hu; rfl
  keepR := by rintro _ _ _ _ _ _ h _ _; exact h
  keepO := by rintro _ _ _ _ _ h _; exact h
  ltO := by rintro _ _ _ _ ⟨_, rfl⟩ k hk; simp at hk
  OR := by rintro _ _ _ _ _ ⟨h1, _⟩ _; exact h1
/-- a string -/
def strT : Ty ByteArray where
  size := 1
  R := fun _ _ cs x => cs = [.string x] ∧ x.size ≤ 9223372036854775807
  O := fun _ cs x S => cs = [.string x] ∧ x.size ≤ 9223372036854775807 ∧ S = []
  lenR := by rintro _ _ _ _ ⟨rfl, _⟩; rfl
  lenO := by rintro _ _ _ _ ⟨rfl, _⟩; rfl
  oneO := by rintro _ _ _ _ ⟨rfl, _⟩ u hu; simp at hu; subst hu; rfl
  oneR := by rintro _ _ _ _ ⟨rfl, _⟩ u hu; simp at hu; subst hu; rfl
  keepR := by rintro _ _ _ _ _ _ h _ _; exact h
  keepO := by rintro _ _ _ _ _ h _; exact h
  ltO := by rintro _ _ _ _ ⟨_, _, rfl⟩ k hk; simp at hk
  OR := by rintro _ _ _ _ _ ⟨h1, h2, _⟩ _; exact ⟨h1, h2⟩
/-- two fields, one behind the other -/
def Ty.prod {α β : Type} (T : Ty α) (U : Ty β) : Ty (α × β) where
  size := T.size + U.size
  R := fun w B cs x => ∃ c1 c2, cs = c1 ++ c2 ∧ T.R w B c1 x.1 ∧ U.R w B c2 x.2
  O := fun w cs x S => ∃ c1 c2 S1 S2, cs = c1 ++ c2 ∧ S = S1 ++ S2 ∧ T.O w c1 x.1 S1 ∧ U.O w c2 x.2 S2
  lenR := by rintro _ _ _ _ ⟨c1, c2, rfl, h1, h2⟩; simp [T.lenR h1, U.lenR h2]
  lenO := by rintro _ _ _ _ ⟨c1, c2, _, _, rfl, _, h1, h2⟩; simp [T.lenO h1, U.lenO h2]
  oneO := by
    rintro _ _ _ _ ⟨c1, c2, _, _, rfl, _, h1, h2⟩ u hu
    rcases List.mem_append.1 hu with hu | hu
    · exact T.oneO h1 u hu
    · exact U.oneO h2 u hu
  oneR := by
    rintro _ _ _ _ ⟨c1, c2, rfl, h1, h2⟩ u hu
    rcases List.mem_append.1 hu with hu | hu
    · exact T.oneR h1 u hu
    · exact U.oneR h2 u hu
  keepR := by rintro _ _ _ _ _ _ ⟨c1, c2, rfl, h1, h2⟩ hk hB; exact ⟨c1, c2, rfl, T.keepR h1 hk hB, U.keepR h2 hk hB⟩
  keepO := by
    rintro _ _ _ _ _ ⟨c1, c2, S1, S2, rfl, rfl, h1, h2⟩ hk
    exact ⟨c1, c2, S1, S2, rfl, rfl, T.keepO h1 (fun k hk1 => hk k (List.mem_append_left _ hk1)), U.keepO h2 (fun k hk2 => hk k (List.mem_append_right _ hk2))⟩
  ltO := by
    rintro _ _ _ _ ⟨c1, c2, S1, S2, rfl, rfl, h1, h2⟩ k hk
    rcases List.mem_append.1 hk with hk | hk
    · exact T.ltO h1 k hk
    · exact U.ltO h2 k hk
  OR := by
    rintro _ _ _ _ _ ⟨c1, c2, S1, S2, rfl, rfl, h1, h2⟩ hk
    exact ⟨c1, c2, rfl, T.OR h1 (fun k hk1 => hk k (List.mem_append_left _ hk1)), U.OR h2 (fun k hk2 => hk k (List.mem_append_right _ hk2))⟩
/-- the same cells, read as another datum -/
def Ty.via {α β : Type} (T : Ty α) (f : β → α) : Ty β where
  size := T.size
  R := fun w B cs x => T.R w B cs (f x)
  O := fun w cs x S => T.O w cs (f x) S
  lenR := T.lenR
  lenO := T.lenO
  oneO := T.oneO
  oneR := T.oneR
  keepR := T.keepR
  keepO := T.keepO
  ltO := T.ltO
  OR := T.OR
/-- rows of elements, one behind the other, as owned cells -/
def Rows {α : Type} (T : Ty α) (w : World) : List Value → List α → List Nat → Prop
  | cs, [], S => cs = [] ∧ S = []
  | cs, x :: xs, S => ∃ c1 c2 S1 S2, cs = c1 ++ c2 ∧ S = S1 ++ S2 ∧ T.O w c1 x S1 ∧ Rows T w c2 xs S2
section
variable {α : Type} {T : Ty α} {w w' : World}
theorem Rows.len : ∀ {xs : List α} {cs : List Value} {S : List Nat}, Rows T w cs xs S → cs.length = xs.length * T.size
  | [], _, _, h => by simp [h.1]
  | x :: xs, _, _, ⟨c1, c2, S1, S2, h1, _, h3, h4⟩ => by
    subst h1
    rw [List.length_append, T.lenO h3, Rows.len h4, List.length_cons, Nat.add_mul, Nat.one_mul, Nat.add_comm]
theorem Rows.one : ∀ {xs : List α} {cs : List Value} {S : List Nat}, Rows T w cs xs S → ∀ u ∈ cs, u.oneCell' = true
  | [], _, _, h => by simp [h.1]
  | x :: xs, _, _, ⟨c1, c2, S1, S2, h1, _, h3, h4⟩ => by
    subst h1
    intro u hu
    rcases List.mem_append.1 hu with hu | hu
    · exact T.oneO h3 u hu
    · exact Rows.one h4 u hu
theorem Rows.keep : ∀ {xs : List α} {cs : List Value} {S : List Nat}, Rows T w cs xs S → (∀ k ∈ S, w'.heap[k]? = w.heap[k]?) → Rows T w' cs xs S
  | [], _, _, h, _ => h
  | x :: xs, _, _, ⟨c1, c2, S1, S2, h1, h2, h3, h4⟩, hk => by
    subst h2
    exact ⟨c1, c2, S1, S2, h1, rfl, T.keepO h3 (fun k hk1 => hk k (List.mem_append_left _ hk1)), Rows.keep h4 (fun k hk2 => hk k (List.mem_append_right _ hk2))⟩
theorem Rows.lt : ∀ {xs : List α} {cs : List Value} {S : List Nat}, Rows T w cs xs S → ∀ k ∈ S, k < w.heap.size
  | [], _, _, h => by simp [h.2]
  | x :: xs, _, _, ⟨c1, c2, S1, S2, h1, h2, h3, h4⟩ => by
    subst h2
    intro k hk
    rcases List.mem_append.1 hk with hk | hk
    · exact T.ltO h3 k hk
    · exact Rows.lt h4 k hk
theorem Rows.snoc : ∀ {xs : List α} {cs : List Value} {S : List Nat}, Rows T w cs xs S → ∀ {c : List Value} {x : α} {S' : List Nat}, T.O w c x S' → Rows T w (cs ++ c) (xs ++ [x]) (S ++ S')
  | [], _, _, h, c, x, S', hx => by
    obtain ⟨rfl, rfl⟩ := h
    exact ⟨c, [], S', [], by simp, by simp, hx, rfl, rfl⟩
  | y :: ys, _, _, ⟨c1, c2, S1, S2, h1, h2, h3, h4⟩, c, x, S', hx => by
    subst h1 h2
    exact ⟨c1, c2 ++ c, S1, S2 ++ S', by simp, by simp, h3, Rows.snoc h4 hx⟩
theorem Rows.app : ∀ {xs : List α} {cs : List Value} {S : List Nat}, Rows T w cs xs S → ∀ {ys : List α} {ds : List Value} {S' : List Nat}, Rows T w ds ys S' → Rows T w (cs ++ ds) (xs ++ ys) (S ++ S')
  | [], _, _, h, ys, ds, S', hy => by
    obtain ⟨rfl, rfl⟩ := h
    simpa using hy
  | x :: xs, _, _, ⟨c1, c2, S1, S2, h1, h2, h3, h4⟩, ys, ds, S', hy => by
    subst h1 h2
    exact ⟨c1, c2 ++ ds, S1, S2 ++ S', by simp, by simp, h3, Rows.app h4 hy⟩
/-- parted at the k-th element -/
theorem Rows.part : ∀ {k : Nat} {xs : List α} {cs : List Value} {S : List Nat}, Rows T w cs xs S → ∀ {x : α}, xs[k]? = some x →
    ∃ a c b Sa Sc Sb, cs = a ++ (c ++ b) ∧ S = Sa ++ (Sc ++ Sb) ∧ a.length = k * T.size ∧ Rows T w a (xs.take k) Sa ∧ T.O w c x Sc ∧ Rows T w b (xs.drop (k + 1)) Sb
  | _, [], _, _, _, x, hx => by simp at hx
  | 0, y :: ys, _, _, ⟨c1, c2, S1, S2, h1, h2, h3, h4⟩, x, hx => by
    simp at hx
    subst hx
    exact ⟨[], c1, c2, [], S1, S2, by simp [h1], by simp [h2], by simp, ⟨rfl, rfl⟩, h3, by simpa using h4⟩
  | k + 1, y :: ys, _, _, ⟨c1, c2, S1, S2, h1, h2, h3, h4⟩, x, hx => by
    obtain ⟨a, c, b, Sa, Sc, Sb, e1, e2, e3, ha, hc, hb⟩ := Rows.part h4 (k := k) (x := x) (by simpa using hx)
    subst h1 h2 e1 e2
    refine ⟨c1 ++ a, c, b, S1 ++ Sa, Sc, Sb, by simp, by simp, ?_, ?_, hc, ?_⟩
    · rw [List.length_append, T.lenO h3, e3, Nat.add_mul, Nat.one_mul, Nat.add_comm]
    · exact ⟨c1, a, S1, Sa, rfl, rfl, h3, ha⟩
    · simpa using hb
/-- the k-th element is another -/
theorem Rows.join {k : Nat} {xs : List α} {a c b : List Value} {Sa Sc Sb : List Nat} {x y : α} (hx : xs[k]? = some x) (ha : Rows T w a (xs.take k) Sa) (hc : T.O w c y Sc) (hb : Rows T w b (xs.drop (k + 1)) Sb) :
    Rows T w (a ++ (c ++ b)) (xs.set k y) (Sa ++ (Sc ++ Sb)) := by
  have hk : k < xs.length := (List.getElem?_eq_some_iff.1 hx).1
  have e : xs.set k y = xs.take k ++ ([y] ++ xs.drop (k + 1)) := by
    rw [List.set_eq_take_append_cons_drop, if_pos hk]; rfl
  rw [e]
  exact Rows.app ha (Rows.app (show Rows T w c [y] Sc from ⟨c, [], Sc, [], by simp, by simp, hc, rfl, rfl⟩) hb)
theorem Rows.get {k : Nat} {xs : List α} {cs : List Value} {S : List Nat} (h : Rows T w cs xs S) {x : α} (hx : xs[k]? = some x) :
    ∃ c Sc, T.O w c x Sc ∧ (∀ j ∈ Sc, j ∈ S) ∧ ∀ j u, c[j]? = some u → cs[k * T.size + j]? = some u := by
  obtain ⟨a, c, b, Sa, Sc, Sb, rfl, rfl, hl, _, hc, _⟩ := h.part hx
  refine ⟨c, Sc, hc, fun j hj => by simp [hj], fun j u hu => ?_⟩
  rw [List.getElem?_append_right (by omega), hl, Nat.add_sub_cancel_left, List.getElem?_append_left (List.getElem?_eq_some_iff.1 hu).1]
  exact hu
end
def blockOf : Option Addr → List Nat
  | some a => [a.block]
  | none => []
/-- a slice of such elements; e: the element type's number -/
def Ty.sl {α : Type} (T : Ty α) (e : TypeId) : Ty (List α) where
  size := 1
  R := fun w B cs xs => ∃ A c, cs = [.slice A xs.length c] ∧ xs.length ≤ c ∧ c ≤ 9223372036854775807 ∧ (A = none → c = 0) ∧
    (0 < xs.length → ∃ g off, A = some ⟨g, off, none⟩ ∧ g < B ∧ ∀ i x, xs[i]? = some x → ∃ ec, T.R w B ec x ∧ ∀ j u, ec[j]? = some u → w.cell? ⟨g, off + i * T.size + j, none⟩ = some u)
  O := fun w cs xs S => ∃ A c ecs S', cs = [.slice A xs.length c] ∧ w.ownsRow 0 e T.size (.slice A xs.length c) xs.length ecs ∧ Rows T w ecs xs S' ∧ S = blockOf A ++ S'
  lenR := by rintro _ _ _ _ ⟨A, c, rfl, _⟩; rfl
  lenO := by rintro _ _ _ _ ⟨A, c, _, _, rfl, _⟩; rfl
  oneO := by rintro _ _ _ _ ⟨A, c, _, _, rfl, _⟩ u hu; simp at hu; subst hu; rfl
  oneR := by rintro _ _ _ _ ⟨A, c, rfl, _⟩ u hu; simp at hu; subst hu; rfl
  keepR := by
    rintro w w' B B' cs xs ⟨A, c, rfl, h1, h2, h3, h4⟩ hk hB
    refine ⟨A, c, rfl, h1, h2, h3, fun hp => ?_⟩
    obtain ⟨g, off, rfl, hg, h5⟩ := h4 hp
    refine ⟨g, off, rfl, by omega, fun i x hx => ?_⟩
    obtain ⟨ec, h6, h7⟩ := h5 i x hx
    exact ⟨ec, T.keepR h6 hk hB, fun j u hu => (World.cell?_of_block (hk g hg)).trans (h7 j u hu)⟩
  keepO := by
    rintro w w' cs xs S ⟨A, c, ecs, S', rfl, h1, h2, rfl⟩ hk
    refine ⟨A, c, ecs, S', rfl, ?_, Rows.keep h2 (fun k hk' => hk k (List.mem_append_right _ hk')), rfl⟩
    refine ⟨h1.1, ?_⟩
    rcases h1.2 with h | ⟨g, cap, cur, hv, hb, hg, rest⟩
    · exact .inl h
    · have hv' := hv
      injection hv' with hA _ _
      subst hA
      exact .inr ⟨g, cap, cur, hv, hb, (hk g (by simp [blockOf])).trans hg, rest⟩
  ltO := by
    rintro w cs xs S ⟨A, c, ecs, S', rfl, h1, h2, rfl⟩ k hk
    rcases List.mem_append.1 hk with hk | hk
    · cases A with
      | none => simp [blockOf] at hk
      | some a =>
        simp [blockOf] at hk
        exact (h1.lt k (by simp [Value.ownBlock, hk])).2
    · exact Rows.lt h2 k hk
  OR := by
    rintro w cs xs S B ⟨A, c, ecs, S', rfl, h1, h2, rfl⟩ hk
    obtain ⟨hlen, hrest⟩ := h1
    rcases hrest with ⟨hv, hn⟩ | ⟨g, cap, cur, hv, _, hg, hnc, hcm, hcs, htake⟩
    · injection hv with hA _ hc
      subst hA hc
      exact ⟨none, 0, rfl, by omega, Nat.zero_le _, fun _ => rfl, fun hp => by omega⟩
    · injection hv with hA _ hc
      subst hA hc
      refine ⟨_, _, rfl, hnc, by simpa [maxLen] using hcm, fun h => by simp at h, fun _ => ⟨g, 0, rfl, hk g (by simp [blockOf]), fun i x hx => ?_⟩⟩
      obtain ⟨ec, Sc, hO, hS, hget⟩ := Rows.get h2 hx
      refine ⟨ec, T.OR hO (fun k hk' => hk k (List.mem_append_right _ (hS k hk'))), fun j u hu => ?_⟩
      rw [cell_of_row w g _ cur e (0, 0) hg, Nat.zero_add]
      have hj := hget j u hu
      rw [← htake, List.getElem?_take] at hj
      split at hj
      · simpa using hj
      · cases hj
theorem sl_at {α : Type} {T : Ty α} {e : TypeId} {w : World} {B : Nat} {v : Value} {xs : List α} (h : (T.sl e).R w B [v] xs) : ∃ A c, v = .slice A xs.length c ∧ xs.length ≤ c ∧ c ≤ 9223372036854775807 := by
  obtain ⟨A, c, h1, h2, h3, _⟩ := h
  exact ⟨A, c, by simpa using h1, h2, h3⟩
/-- one element of a list, as the walk wants it -/
theorem elem_at {α : Type} {T : Ty α} {e : TypeId} {w : World} {B : Nat} {A : Option Addr} {n c : Nat} {xs : List α} (h : (T.sl e).R w B [.slice A n c] xs) {k : Nat} (hk : k < xs.length) :
    ∃ g off x ec, A = some ⟨g, off, none⟩ ∧ g < B ∧ xs[k]? = some x ∧ T.R w B ec x ∧ ∀ j u, ec[j]? = some u → w.cell? ⟨g, off + k * T.size + j, none⟩ = some u := by
  obtain ⟨A', c', h1, _, _, _, h5⟩ := h
  obtain ⟨g, off, rfl, hg, h6⟩ := h5 (by omega)
  injection h1 with h1 _
  injection h1 with h1 _ _
  have hx : xs[k]? = some xs[k] := List.getElem?_eq_getElem hk
  obtain ⟨ec, h7, h8⟩ := h6 k _ hx
  exact ⟨g, off, xs[k], ec, h1, hg, hx, h7, h8⟩
theorem ints_at {e : TypeId} {w : World} {B : Nat} {A : Option Addr} {n c : Nat} {xs : List Int} (h : (intT.sl e).R w B [.slice A n c] xs) {k : Nat} (hk : k < xs.length) :
    ∃ g off x, A = some ⟨g, off, none⟩ ∧ xs[k]? = some x ∧ w.cell? ⟨g, off + k, none⟩ = some (.int .i64 x) ∧ -9223372036854775808 ≤ x ∧ x ≤ 9223372036854775807 := by
  obtain ⟨g, off, x, ec, h1, _, h2, ⟨rfl, b1, b2⟩, h4⟩ := elem_at h hk
  have := h4 0 _ rfl
  simp only [intT, Nat.mul_one, Nat.add_zero] at this
  exact ⟨g, off, x, h1, h2, this, b1, b2⟩
theorem heap_setCell_at {w : World} {g : Nat} {cur : Array Value} {e : TypeId} (hg : w.heap[g]? = some (.cells cur e (0, 0))) (i : Nat) (u : Value) : (w.setCell ⟨g, i, none⟩ u).heap[g]? = some (.cells (cur.setIfInBounds i u) e (0, 0)) := by
  simp [World.setCell, Array.getElem?_modify, hg]
/-- one element of an owned list: its cells, as they stand; and what a store into it leaves -/
theorem own_elem {α : Type} {T : Ty α} {e : TypeId} {w : World} {A : Option Addr} {n c : Nat} {xs : List α} {S : List Nat} (h : (T.sl e).O w [.slice A n c] xs S) (hS : S.Nodup) {k : Nat} {x : α} (hx : xs[k]? = some x) :
    ∃ g ec Sc, A = some ⟨g, 0, none⟩ ∧ g ∈ S ∧ g < w.heap.size ∧ g ∉ Sc ∧ (∀ j ∈ Sc, j ∈ S) ∧ Sc.Nodup ∧ T.O w ec x Sc ∧ (∀ j, w.frozen? ⟨g, j, none⟩ = false) ∧ (∀ j u, ec[j]? = some u → w.cell? ⟨g, k * T.size + j, none⟩ = some u) ∧
      (∀ j u y, j < T.size → u.oneCell' = true → T.O w (ec.set j u) y Sc → (T.sl e).O (w.setCell ⟨g, k * T.size + j, none⟩ u) [.slice A n c] (xs.set k y) S ∧ OnlyS S w (w.setCell ⟨g, k * T.size + j, none⟩ u)) ∧
      (∀ w' y, OnlyS Sc w w' → T.O w' ec y Sc → (T.sl e).O w' [.slice A n c] (xs.set k y) S) := by
  obtain ⟨A', c', ecs, S', h1, h2, h3, rfl⟩ := h
  injection h1 with h1 _
  injection h1 with hA hn hc
  subst hA hn hc
  have hk : k < xs.length := (List.getElem?_eq_some_iff.1 hx).1
  obtain ⟨a, ec, b, Sa, Sc, Sb, rfl, rfl, hl, ha, hO, hb⟩ := Rows.part h3 hx
  obtain ⟨hlen, hrest⟩ := h2
  rcases hrest with ⟨_, hn⟩ | ⟨g, cap, cur, hv, hbase, hg, hnc, hcm, hcs, htake⟩
  · omega
  · injection hv with hA _ hc
    subst hA hc
    have hgl : g < w.heap.size := (Array.getElem?_eq_some_iff.1 hg).1
    simp only [blockOf, List.singleton_append, List.nodup_cons, List.nodup_append, List.mem_append, not_or] at hS
    obtain ⟨⟨hga, hgc, hgb⟩, hna, ⟨hncd, hnb, hdcb⟩, hda⟩ := hS
    have hec : ec.length = T.size := T.lenO hO
    have hlc : (a ++ (ec ++ b)).length ≤ cur.size := by
      rw [← htake, List.length_take]
      have : cur.toList.length = cur.size := Array.length_toList
      omega
    have hcell : ∀ (j : Nat) (u : Value), (a ++ (ec ++ b))[j]? = some u → cur[j]? = some u := by
      intro j u hu
      rw [← htake, List.getElem?_take] at hu
      split at hu
      · simpa using hu
      · cases hu
    refine ⟨g, ec, Sc, rfl, by simp [blockOf], hgl, hgc, fun j hj => by simp [hj], hncd, hO, fun j => by simp [World.frozen?, hg], fun j u hu => ?_, fun j u y hj h1 hy => ?_, fun w' y ho hy => ?_⟩
    · rw [cell_of_row w g _ cur e (0, 0) hg]
      apply hcell
      rw [List.getElem?_append_right (by omega), hl, Nat.add_sub_cancel_left, List.getElem?_append_left (List.getElem?_eq_some_iff.1 hu).1]
      exact hu
    · have hother : ∀ i, i ≠ g → (w.setCell ⟨g, k * T.size + j, none⟩ u).heap[i]? = w.heap[i]? := fun i hi => Below.heap_setCell w _ u i hi
      refine ⟨⟨some ⟨g, 0, none⟩, c, a ++ (ec.set j u ++ b), _, by rw [List.length_set], ⟨?_, .inr ⟨g, c, cur.setIfInBounds (k * T.size + j) u, by rw [List.length_set], hbase, heap_setCell_at hg _ _, by simpa using hnc, hcm, by simpa using hcs, ?_⟩⟩, Rows.join hx (Rows.keep ha ?_) (T.keepO hy ?_) (Rows.keep hb ?_), rfl⟩, ?_⟩
      · rw [List.length_set, ← hlen]
        simp
      · rw [List.length_set, Array.toList_setIfInBounds, List.take_set, htake, List.set_append_right _ _ (by omega), hl, Nat.add_sub_cancel_left, List.set_append_left _ _ (by omega)]
      · exact fun i hi => hother i (fun e => hga (e ▸ hi))
      · exact fun i hi => hother i (fun e => hgc (e ▸ hi))
      · exact fun i hi => hother i (fun e => hgb (e ▸ hi))
      · exact (OnlyS.refl _ _).setCell (by simp [blockOf]) u
    · have hk' : ∀ i, i < w.heap.size → i ∉ Sc → w'.heap[i]? = w.heap[i]? := ho.block
      refine ⟨some ⟨g, 0, none⟩, c, a ++ (ec ++ b), _, by rw [List.length_set], ⟨by rw [List.length_set, ← hlen], .inr ⟨g, c, cur, by rw [List.length_set], hbase, (hk' g hgl hgc).trans hg, by simpa using hnc, hcm, hcs, by rw [List.length_set]; exact htake⟩⟩, Rows.join hx (Rows.keep ha ?_) hy (Rows.keep hb ?_), rfl⟩
      · exact fun i hi => hk' i (Rows.lt ha i hi) (fun hc => hda i hi i (.inl hc) rfl)
      · exact fun i hi => hk' i (Rows.lt hb i hi) (fun hc => hdcb i hc i hi rfl)
theorem gro_of_drewN (w : World) (n : Nat) : Gro w (w.drewN n) := by
  induction n with
  | zero => exact Gro.refl _
  | succ n ih => exact ih.drew
theorem Gro.drewN {a b : World} (h : Gro a b) (n : Nat) : Gro a (b.drewN n) := h.trans (gro_of_drewN _ _)
theorem take_snoc {α : Type} {xs : List α} {k : Nat} {x : α} (h : xs[k]? = some x) : xs.take (k + 1) = xs.take k ++ [x] := by
  rw [List.take_add_one, h]; rfl
theorem gro_keeps {w : World} {a : Addr} {v : Value} (h : w.cell? a = some v) (os : Array Obj) (d : Nat) : (gro w os d).cell? a = some v := by
  have hb := World.block_lt_of_cell? w a h
  rw [← h]
  simp only [World.cell?, gro_get os d _ hb]
theorem alloc_keeps {w : World} {a : Addr} {v : Value} (h : w.cell? a = some v) (o : Obj) : (w.alloc o).cell? a = some v := by
  rw [gro_of_alloc]
  exact gro_keeps h _ _
theorem drew_keeps {w : World} {a : Addr} {v : Value} (h : w.cell? a = some v) : w.drew.cell? a = some v := h
/-- a fresh datum: owned, no block twice, all its blocks new since w -/
def Fresh {α : Type} (T : Ty α) (w w' : World) (cs : List Value) (x : α) : Prop := ∃ S, T.O w' cs x S ∧ S.Nodup ∧ ∀ b ∈ S, w.heap.size ≤ b
theorem Fresh.gro {α : Type} {T : Ty α} {w w1 w2 : World} {cs : List Value} {x : α} (h : Fresh T w w1 cs x) (hg : Gro w1 w2) : Fresh T w w2 cs x := by
  obtain ⟨S, h1, h2, h3⟩ := h
  exact ⟨S, T.groO h1 hg, h2, h3⟩
theorem Fresh.since {α : Type} {T : Ty α} {w0 w w1 : World} {cs : List Value} {x : α} (h : Fresh T w w1 cs x) (hg : w0.heap.size ≤ w.heap.size) : Fresh T w0 w1 cs x := by
  obtain ⟨S, h1, h2, h3⟩ := h
  exact ⟨S, h1, h2, fun b hb => Nat.le_trans hg (h3 b hb)⟩
theorem Fresh.read {α : Type} {T : Ty α} {w w1 : World} {cs : List Value} {x : α} (h : Fresh T w w1 cs x) : T.R w1 w1.heap.size cs x := by
  obtain ⟨S, h1, _, _⟩ := h
  exact T.read h1
/-- fresh since W0, and all its blocks below hi -/
def Fre {α : Type} (T : Ty α) (W0 : World) (hi : Nat) (W : World) (cs : List Value) (x : α) : Prop := ∃ S, T.O W cs x S ∧ S.Nodup ∧ ∀ b ∈ S, W0.heap.size ≤ b ∧ b < hi
theorem Fresh.fre {α : Type} {T : Ty α} {w w1 : World} {cs : List Value} {x : α} (h : Fresh T w w1 cs x) : Fre T w w1.heap.size w1 cs x := by
  obtain ⟨S, h1, h2, h3⟩ := h
  exact ⟨S, h1, h2, fun b hb => ⟨h3 b hb, T.ltO h1 b hb⟩⟩
theorem Fre.fresh {α : Type} {T : Ty α} {w w1 : World} {hi : Nat} {cs : List Value} {x : α} (h : Fre T w hi w1 cs x) : Fresh T w w1 cs x := by
  obtain ⟨S, h1, h2, h3⟩ := h
  exact ⟨S, h1, h2, fun b hb => (h3 b hb).1⟩
theorem Fre.same {α : Type} {T : Ty α} {w w1 w2 : World} {hi : Nat} {cs : List Value} {x : α} (h : Fre T w hi w1 cs x) (hs : Same w.heap.size hi w1 w2) : Fre T w hi w2 cs x := by
  obtain ⟨S, h1, h2, h3⟩ := h
  exact ⟨S, T.keepO h1 (fun k hk => hs k (h3 k hk).1 (h3 k hk).2), h2, h3⟩
theorem Fre.gro {α : Type} {T : Ty α} {w w1 w2 : World} {hi : Nat} {cs : List Value} {x : α} (h : Fre T w hi w1 cs x) (hg : Gro w1 w2) : Fre T w hi w2 cs x := by
  obtain ⟨S, h1, h2, h3⟩ := h
  exact ⟨S, T.groO h1 hg, h2, h3⟩
theorem Fre.up {α : Type} {T : Ty α} {w w1 : World} {hi hi' : Nat} {cs : List Value} {x : α} (h : Fre T w hi w1 cs x) (hh : hi ≤ hi') : Fre T w hi' w1 cs x := by
  obtain ⟨S, h1, h2, h3⟩ := h
  exact ⟨S, h1, h2, fun b hb => ⟨(h3 b hb).1, Nat.lt_of_lt_of_le (h3 b hb).2 hh⟩⟩
theorem Fre.read {α : Type} {T : Ty α} {w w1 : World} {hi : Nat} {cs : List Value} {x : α} (h : Fre T w hi w1 cs x) : T.R w1 w1.heap.size cs x := h.fresh.read
theorem Fre.since {α : Type} {T : Ty α} {w0 w w1 : World} {hi : Nat} {cs : List Value} {x : α} (h : Fre T w hi w1 cs x) (hg : w0.heap.size ≤ w.heap.size) : Fre T w0 hi w1 cs x := by
  obtain ⟨S, h1, h2, h3⟩ := h
  exact ⟨S, h1, h2, fun b hb => ⟨Nat.le_trans hg (h3 b hb).1, (h3 b hb).2⟩⟩
/-- .. its blocks lie from W0 to hi, or from n on -/
def Fr2 {α : Type} (T : Ty α) (W0 : World) (hi n : Nat) (W : World) (cs : List Value) (x : α) : Prop := ∃ S, T.O W cs x S ∧ S.Nodup ∧ ∀ b ∈ S, (W0.heap.size ≤ b ∧ b < hi) ∨ n ≤ b
theorem Fr2.fresh {α : Type} {T : Ty α} {w w1 : World} {hi n : Nat} {cs : List Value} {x : α} (h : Fr2 T w hi n w1 cs x) (hn : w.heap.size ≤ n) : Fresh T w w1 cs x := by
  obtain ⟨S, h1, h2, h3⟩ := h
  exact ⟨S, h1, h2, fun b hb => by have := h3 b hb; omega⟩
theorem Fr2.same {α : Type} {T : Ty α} {w w1 w2 : World} {hi n : Nat} {cs : List Value} {x : α} (h : Fr2 T w hi n w1 cs x) (hs : Same w.heap.size hi w1 w2) (ht : Same n w1.heap.size w1 w2) : Fr2 T w hi n w2 cs x := by
  obtain ⟨S, h1, h2, h3⟩ := h
  refine ⟨S, T.keepO h1 (fun k hk => ?_), h2, h3⟩
  rcases h3 k hk with h | h
  · exact hs k h.1 h.2
  · exact ht k h (T.ltO h1 k hk)
theorem Fr2.fre {α : Type} {T : Ty α} {w w1 : World} {hi n : Nat} {cs : List Value} {x : α} (h : Fr2 T w hi n w1 cs x) (hn : w.heap.size ≤ n) : Fre T w w1.heap.size w1 cs x := (h.fresh hn).fre
/-- what a function hands back that makes a new list -/
def RetSl {α : Type} (T : Ty α) (e : TypeId) (xs : List α) (w : World) (r : Ending) (w' : World) : Prop := ∃ A c, r = .returned (.slice A xs.length c) ∧ Fresh (T.sl e) w w' [.slice A xs.length c] xs ∧ Gro w w'
theorem own_made {α : Type} {T : Ty α} {e : TypeId} {w : World} {g : Nat} {cur : Array Value} {xs : List α} {S : List Nat} (hg : w.heap[g]? = some (.cells cur e (0, 0))) (hr : Rows T w cur.toList xs S) (hm : xs.length ≤ 9223372036854775807) :
    (T.sl e).O w [.slice (some ⟨g, 0, none⟩) xs.length xs.length] xs (g :: S) := by
  have hl := hr.len
  rw [Array.length_toList] at hl
  refine ⟨_, _, cur.toList, S, rfl, ⟨by rw [Array.length_toList]; exact hl, .inr ⟨g, xs.length, cur, rfl, Nat.zero_le _, hg, Nat.le_refl _, by simpa [maxLen] using hm, hl, ?_⟩⟩, hr, rfl⟩
  rw [List.take_of_length_le]
  rw [Array.length_toList]
  omega
theorem run_make_rowN {P : Program} (t e : TypeId) (i : TypeInfo) (z : Value) (ht : P.underlying t = some (.slice e)) (hi : P.info? e = some i) (hz : i.zero = some z)
    (kl kc : IntKind) (n c : Nat) (hnc : n ≤ c) (hbytes : i.bytes * c ≤ 281474976710656) (h63 : c ≤ 9223372036854775807) (w : World) :
    (Instr.makeSlice t (.int kl (n : Int)) (.int kc (c : Int))).run P w = .ok (.slice (some ⟨w.heap.size, 0, none⟩) n c) (w.alloc (.cells (madeCells z.cells (c * i.size)) e)) := by
  have hb : (i.bytes : Int) * (c : Int) ≤ 281474976710656 := by
    have h : ((i.bytes * c : Nat) : Int) ≤ 281474976710656 := by omega
    rwa [Int.natCast_mul] at h
  have hr := run_make (P := P) w t e i z ht hi hz kl kc n c (by omega) (by omega) hb (by omega)
  simp only [Int.toNat_natCast] at hr
  exact hr
theorem madeCells_size (z : Array Value) (n : Nat) : (madeCells z n).size = n := by simp [madeCells]
theorem toList_inj' {x y : ByteArray} : x.toList = y.toList ↔ x = y := by
  rw [ByteArray.toList_eq, ByteArray.toList_eq]
  constructor
  · intro h
    cases x
    cases y
    simpa using h
  · rintro rfl
    rfl
theorem str_eqb (x y : ByteArray) : (x.toList == y.toList) = decide (x = y) := by
  rw [Bool.eq_iff_iff]
  simp only [beq_iff_eq, toList_inj', decide_eq_true_eq]
/-- 'xs[k:]' -/
theorem sl_drop {α : Type} {T : Ty α} {e : TypeId} {w : World} {B : Nat} {A : Option Addr} {n c k : Nat} {xs : List α} (h : (T.sl e).R w B [.slice A n c] xs) (hk : k ≤ n) :
    (T.sl e).R w B [.slice (if c = k then A else A.map (·.add (k * T.size))) (n - k) (c - k)] (xs.drop k) := by
  obtain ⟨A', c', h1, h2, h3, h4, h5⟩ := h
  injection h1 with h1 _
  injection h1 with hA hn hc
  subst hA hn hc
  refine ⟨_, c - k, by rw [List.length_drop], by rw [List.length_drop]; omega, by omega, fun hN => ?_, fun hp => ?_⟩
  · split at hN
    · omega
    · cases A with
      | none => have := h4 rfl; omega
      | some a => simp at hN
  · rw [List.length_drop] at hp
    obtain ⟨g, off, rfl, hg, h6⟩ := h5 (by omega)
    refine ⟨g, off + k * T.size, ?_, hg, fun i x hx => ?_⟩
    · rw [if_neg (by omega)]
      simp [Addr.add_lit]
    · rw [List.getElem?_drop] at hx
      obtain ⟨ec, h7, h8⟩ := h6 _ x hx
      refine ⟨ec, h7, fun j u hu => ?_⟩
      have := h8 j u hu
      rw [show off + k * T.size + i * T.size + j = off + (k + i) * T.size + j from by rw [Nat.add_mul]; omega]
      exact this
theorem keepOnly {α : Type} (T : Ty α) {w0 a b : World} {cs : List Value} {x : α} {S S' : List Nat} (h : T.O w0 cs x S) (hs : OnlyS S' a b) (hg : Gro w0 a) (hd : ∀ k ∈ S, k ∉ S') : T.O b cs x S :=
  T.keepO (T.groO h hg) fun k hk => hs.block k (T.ltO (T.groO h hg) k hk) (hd k hk)
theorem nd2 {A B : List Nat} (h : (A ++ B).Nodup) : A.Nodup ∧ B.Nodup ∧ (∀ k ∈ A, k ∉ B) ∧ (∀ k ∈ B, k ∉ A) := by
  rw [List.nodup_append] at h
  exact ⟨h.1, h.2.1, fun k ha hb => h.2.2 k ha k hb rfl, fun k hb ha => h.2.2 k ha k hb rfl⟩
theorem nd3 {A B C : List Nat} (h : (A ++ B ++ C).Nodup) : A.Nodup ∧ B.Nodup ∧ C.Nodup ∧ (∀ k ∈ A, k ∉ B) ∧ (∀ k ∈ A, k ∉ C) ∧ (∀ k ∈ B, k ∉ A) ∧ (∀ k ∈ B, k ∉ C) ∧ (∀ k ∈ C, k ∉ A) ∧ (∀ k ∈ C, k ∉ B) := by
  obtain ⟨h1, h2, h3, h4⟩ := nd2 h
  obtain ⟨a1, a2, a3, a4⟩ := nd2 h1
  exact ⟨a1, a2, h2, a3, fun k ha => h3 k (List.mem_append_left _ ha), a4, fun k hb => h3 k (List.mem_append_right _ hb), fun k hc ha => h4 k hc (List.mem_append_left _ ha), fun k hc hb => h4 k hc (List.mem_append_right _ hb)⟩
theorem nd4 {A B C D : List Nat} (h : (A ++ B ++ C ++ D).Nodup) : A.Nodup ∧ B.Nodup ∧ C.Nodup ∧ D.Nodup ∧ (∀ k ∈ A, k ∉ B) ∧ (∀ k ∈ A, k ∉ C) ∧ (∀ k ∈ A, k ∉ D) ∧ (∀ k ∈ B, k ∉ A) ∧ (∀ k ∈ B, k ∉ C) ∧ (∀ k ∈ B, k ∉ D) ∧ (∀ k ∈ C, k ∉ A) ∧ (∀ k ∈ C, k ∉ B) ∧ (∀ k ∈ C, k ∉ D) ∧ (∀ k ∈ D, k ∉ A) ∧ (∀ k ∈ D, k ∉ B) ∧ (∀ k ∈ D, k ∉ C) := by
  obtain ⟨h1, h2, h3, h4⟩ := nd2 h
  obtain ⟨a1, a2, a3, b1, b2, b3, b4, b5, b6⟩ := nd3 h1
  refine ⟨a1, a2, a3, h2, b1, b2, fun k hk => h3 k (by simp [hk]), b3, b4, fun k hk => h3 k (by simp [hk]), b5, b6, fun k hk => h3 k (by simp [hk]), fun k hk ha => h4 k hk (by simp [ha]), fun k hk ha => h4 k hk (by simp [ha]), fun k hk ha => h4 k hk (by simp [ha])⟩
theorem gG {a b : World} (h : Gro a b := by repeat with_reducible first | exact .refl _ | exact .refl_drew _ _ _ | exact .refl_drewN _ _ _ _ | assumption | apply Gro.more | apply Gro.alloc | apply Gro.drew | apply Gro.drewN) : Gro a b := h
theorem gF {a b : World} (h : Gro a b := by (repeat with_reducible first | exact .refl _ | exact .refl_drew _ _ _ | exact .refl_drewN _ _ _ _ | assumption | apply Gro.more | apply Gro.alloc | apply Gro.drew | apply Gro.drewN); done) : Gro a b := h
end Go.Proofs.YtgodpjnbhmahaaaGreat
namespace Go.Proofs.YtgodpjnbhmahaaaGreat
open Go.RowKit Go.WideShapes Go.ChangeShapes
/-- type number t reads as T -/
def Opens (P : Program) (t : TypeId) {α : Type} (T : Ty α) : Prop :=
  ∀ (H : Type) (enc : TypeId × Value → H) (W : World) (spare : Nat → Bool) (held : Bool) (fuel : Nat) (cs : List Value) (x : DataW H × List MemPlace),
    DataW.trod enc P W 0 spare held fuel t cs = some x → ∃ a, T.R W W.heap.size cs a
theorem wf_bounds {x : Int} (h : (Lit.int .i64 x).wf = true) : -9223372036854775808 ≤ x ∧ x ≤ 9223372036854775807 := by
  simp [Lit.wf, IntKind.min, IntKind.max, IntKind.signed, IntKind.bits] at h
  exact h
section
variable {P : Program} {t : TypeId}
theorem opens_int (ht : P.underlying t = some (.int .i64)) : Opens P t intT := by
  intro H enc W spare held fuel cs x h
  obtain ⟨n, rfl, _, hw⟩ := DataW.trod_int ht h
  exact ⟨n, rfl, (wf_bounds hw).1, (wf_bounds hw).2⟩
theorem opens_bool (ht : P.underlying t = some .bool) : Opens P t boolT := by
  intro H enc W spare held fuel cs x h
  obtain ⟨b, rfl, _⟩ := DataW.trod_bool ht h
  exact ⟨b, rfl⟩
theorem opens_str (ht : P.underlying t = some .string) : Opens P t strT := by
  intro H enc W spare held fuel cs x h
  obtain ⟨s, rfl, _, hs⟩ := DataW.trod_string ht h
  exact ⟨s, rfl, by simpa [maxLen] using hs⟩
theorem opens_via {α β : Type} {T : Ty α} (f : β → α) (g : α → β) (h : ∀ a, f (g a) = a) (ho : Opens P t T) : Opens P t (T.via f) := by
  intro H enc W spare held fuel cs x hx
  obtain ⟨a, ha⟩ := ho _ _ _ _ _ _ _ _ hx
  exact ⟨g a, by show T.R _ _ _ (f (g a)); rw [h]; exact ha⟩
theorem opens_sl {α : Type} {T : Ty α} {e e' : TypeId} (ht : P.underlying t = some (.slice e)) (hs : P.cellsOf e = T.size) (h0 : 0 < T.size) (he : Opens P e T) : Opens P t (T.sl e') := by
  intro H enc W spare held fuel cs x h
  rcases Go.Deep.open_slice ht h with ⟨rfl, _⟩ | ⟨a, len, cap, m, n, D, Pl, rfl, _, hl, hc, hm, _, hi⟩
  · exact ⟨[], none, 0, rfl, Nat.le_refl _, Nat.zero_le _, fun _ => rfl, fun hp => by simp at hp⟩
  · have hlm : len ≤ m := by rw [hm]; split <;> omega
    have hel : ∀ n', n' ≤ len → ∃ xs : List α, xs.length = n' ∧ ∀ i y, xs[i]? = some y → ∃ ec, T.R W W.heap.size ec y ∧ ∀ (j : Nat) (u : Value), ec[j]? = some u → W.cell? ((a.add (i * T.size)).add j) = some u := by
      intro n'
      induction n' with
      | zero => exact fun _ => ⟨[], rfl, fun i y hy => by simp at hy⟩
      | succ n' ih =>
        intro hn
        obtain ⟨xs, hx1, hx2⟩ := ih (by omega)
        obtain ⟨ec, hcl, htr⟩ := hi n' (by omega)
        obtain ⟨y, hy⟩ := he _ _ _ _ _ _ _ _ htr
        refine ⟨xs ++ [y], by simp [hx1], fun i z hz => ?_⟩
        rw [List.getElem?_append] at hz
        split at hz
        · exact hx2 i z hz
        · rename_i hnl
          have hil := (List.getElem?_eq_some_iff.1 hz).1
          simp at hil
          have hie : i = n' := by omega
          subst hie
          rw [hx1, Nat.sub_self] at hz
          simp at hz
          subst hz
          refine ⟨ec, hy, fun j u hu => ?_⟩
          obtain ⟨_, hlen, hat⟩ := World.cells?_some hcl
          rw [hs] at hat hlen
          rw [hat j (by have := (List.getElem?_eq_some_iff.1 hu).1; omega), hu]
    obtain ⟨xs, hx1, hx2⟩ := hel len (Nat.le_refl _)
    subst hx1
    refine ⟨xs, some a, cap, rfl, hl, by simpa [maxLen] using hc, fun h => by simp at h, fun hp => ?_⟩
    obtain ⟨ec, hR, hcell⟩ := hx2 0 xs[0] (List.getElem?_eq_getElem hp)
    have hel0 : 0 < ec.length := by rw [T.lenR hR]; exact h0
    have h00 := hcell 0 ec[0] (List.getElem?_eq_getElem hel0)
    obtain ⟨g, off, spot⟩ := a
    have h01 : W.cell? ⟨g, off, spot⟩ = some ec[0] := by simpa [Addr.add] using h00
    have hspot : spot = none := World.cell?_spot h01
    subst hspot
    have hlt := World.block_lt_of_cell? W _ h01
    refine ⟨g, off, rfl, hlt, fun i y hy => ?_⟩
    obtain ⟨ec', hR', hcell'⟩ := hx2 i y hy
    refine ⟨ec', hR', fun j u hu => ?_⟩
    have := hcell' j u hu
    rw [Addr.add_lit, Addr.add_lit] at this
    exact this
/-- fields from offset o on -/
def OpF (P : Program) (fs : List Field) (o : Nat) {α : Type} (T : Ty α) : Prop :=
  ∀ (H : Type) (enc : TypeId × Value → H) (W : World) (spare : Nat → Bool) (held : Bool) (fuel : Nat) (cs : List Value), cs.length = o + T.size →
    (∀ f ∈ fs, ∃ y, DataW.trod enc P W 0 spare held fuel f.type ((cs.drop f.offset).take (P.cellsOf f.type)) = some y) → ∃ a, T.R W W.heap.size (cs.drop o) a
theorem opF_one {f : Field} {o : Nat} {α : Type} {T : Ty α} (ho : f.offset = o) (hs : P.cellsOf f.type = T.size) (h : Opens P f.type T) : OpF P [f] o T := by
  intro H enc W spare held fuel cs hl hf
  obtain ⟨y, hy⟩ := hf f (by simp)
  rw [ho, hs, List.take_of_length_le (by simp; omega)] at hy
  exact h _ _ _ _ _ _ _ _ hy
theorem opF_cons {f : Field} {fs : List Field} {o : Nat} {α β : Type} {T : Ty α} {U : Ty β} (ho : f.offset = o) (hs : P.cellsOf f.type = T.size) (h : Opens P f.type T) (hr : OpF P fs (o + T.size) U) : OpF P (f :: fs) o (T.prod U) := by
  intro H enc W spare held fuel cs hl hf
  obtain ⟨y, hy⟩ := hf f (by simp)
  rw [ho, hs] at hy
  obtain ⟨a, ha⟩ := h _ _ _ _ _ _ _ _ hy
  obtain ⟨b, hb⟩ := hr _ enc W spare held fuel cs (by rw [hl]; simp [Ty.prod]; omega) (fun g hg => hf g (by simp [hg]))
  refine ⟨(a, b), (cs.drop o).take T.size, cs.drop (o + T.size), ?_, ha, hb⟩
  rw [← List.drop_drop]
  exact (List.take_append_drop _ _).symm
theorem opens_struct {α : Type} {T : Ty α} {fs : List Field} (ht : P.underlying t = some (.struct fs.toArray)) (hs : P.cellsOf t = T.size) (h : OpF P fs 0 T) : Opens P t T := by
  intro H enc W spare held fuel cs x hx
  obtain ⟨xs, n, _, _, hlen, hxl, hf⟩ := DataW.trod_struct ht hx
  obtain ⟨a, ha⟩ := h _ enc W spare held n cs (by rw [hlen, hs]; omega) (fun f hm => by
    obtain ⟨i, hi, he⟩ := List.getElem_of_mem hm
    have h1 := hf i f (by simp [List.getElem?_eq_getElem hi, he])
    have hi' : i < xs.length := by rw [hxl]; simpa using hi
    exact ⟨_, h1.trans (List.getElem?_eq_getElem hi')⟩)
  exact ⟨a, by simpa using ha⟩
/-- an argument of the law -/
theorem arg_open {H : Type} {enc : TypeId × Value → H} {W : World} {spare : Nat → Bool} {held : Bool} {v : Value} {d : DataW H} {p : List MemPlace} {α : Type} {T : Ty α} (ho : Opens P t T) (h : DataW.Trod enc P W 0 spare held t v d p) : ∃ a, T.R W W.heap.size v.cells.toList a := by
  obtain ⟨fuel, hf⟩ := h
  exact ho _ _ _ _ _ _ _ _ hf
theorem arg_agg {r : Reach} {b0 : Nat} {W : World} {fs : Array Field} {v : Value} (ht : P.underlying t = some (.struct fs)) (hv : Value.okWide P W r b0 t v) : ∃ cs, v = .agg cs := by
  obtain ⟨cs, h, _⟩ := okWide_struct ht hv
  exact ⟨cs, h⟩
end
end Go.Proofs.YtgodpjnbhmahaaaGreat
namespace Go.Proofs.YtgodpjnbhmahaaaGreat
open Go.RowKit
structure DSymbol where
  Name : ByteArray
  Start : Int
  Size : Int
  deriving DecidableEq
def tSymbol : Ty DSymbol := (strT.prod (intT.prod intT)).via fun x => (x.Name, x.Start, x.Size)
theorem tSymbol_opens : Opens Tryz.prog 359 tSymbol := opens_via _ (fun x => ⟨x.1, x.2.1, x.2.2⟩) (fun _ => rfl) (opens_struct Tryz.underlying359 (by kernel_rfl) (opF_cons rfl (by kernel_rfl) (opens_str Tryz.underlying9) (opF_cons rfl (by kernel_rfl) (opens_int Tryz.underlying3) (opF_one rfl (by kernel_rfl) (opens_int Tryz.underlying3)))))
theorem tSymbol_R {w : World} {B : Nat} {cs : List Value} {x : DSymbol} (h : tSymbol.R w B cs x) : cs = [.string x.Name, .int .i64 x.Start, .int .i64 x.Size] ∧ x.Name.size ≤ 9223372036854775807 ∧ I64 x.Start ∧ I64 x.Size := by
  obtain ⟨_, _, rfl, ⟨rfl, b1_Name⟩, ⟨_, _, rfl, ⟨rfl, b1_Start, b2_Start⟩, ⟨rfl, b1_Size, b2_Size⟩⟩⟩ := h
  exact ⟨rfl, b1_Name, ⟨b1_Start, b2_Start⟩, ⟨b1_Size, b2_Size⟩⟩
theorem tSymbol_O {w : World} {cs : List Value} {x : DSymbol} {S : List Nat} (h : tSymbol.O w cs x S) : cs = [.string x.Name, .int .i64 x.Start, .int .i64 x.Size] ∧ S = [] ∧ x.Name.size ≤ 9223372036854775807 ∧ I64 x.Start ∧ I64 x.Size := by
  obtain ⟨_, _, _, _, rfl, rfl, ⟨rfl, b1_Name, rfl⟩, ⟨_, _, _, _, rfl, rfl, ⟨rfl, b1_Start, b2_Start, rfl⟩, ⟨rfl, b1_Size, b2_Size, rfl⟩⟩⟩ := h
  exact ⟨rfl, rfl, b1_Name, ⟨b1_Start, b2_Start⟩, ⟨b1_Size, b2_Size⟩⟩
structure DImage where
  Code : ByteArray
  Symbols : List DSymbol
  deriving DecidableEq
def tImage : Ty DImage := (strT.prod (tSymbol.sl 193)).via fun x => (x.Code, x.Symbols)
theorem tImage_opens : Opens Tryz.prog 299 tImage := opens_via _ (fun x => ⟨x.1, x.2⟩) (fun _ => rfl) (opens_struct Tryz.underlying299 (by kernel_rfl) (opF_cons rfl (by kernel_rfl) (opens_str Tryz.underlying9) (opF_one rfl (by kernel_rfl) (opens_sl Tryz.underlying230 (by kernel_rfl) (by decide) tSymbol_opens))))
theorem tImage_R {w : World} {B : Nat} {cs : List Value} {x : DImage} (h : tImage.R w B cs x) : ∃ A0 c0, cs = [.string x.Code, .slice A0 x.Symbols.length c0] ∧ x.Code.size ≤ 9223372036854775807 ∧ (tSymbol.sl 193).R w B [.slice A0 x.Symbols.length c0] x.Symbols := by
  obtain ⟨_, _, rfl, ⟨rfl, b1_Code⟩, s_Symbols⟩ := h
  obtain ⟨A0, c0, rfl, _⟩ := id s_Symbols
  exact ⟨A0, c0, rfl, b1_Code, s_Symbols⟩
theorem tImage_O {w : World} {cs : List Value} {x : DImage} {S : List Nat} (h : tImage.O w cs x S) : ∃ A0 c0 S0, cs = [.string x.Code, .slice A0 x.Symbols.length c0] ∧ S = S0 ∧ x.Code.size ≤ 9223372036854775807 ∧ (tSymbol.sl 193).O w [.slice A0 x.Symbols.length c0] x.Symbols S0 := by
  obtain ⟨_, _, _, _, rfl, rfl, ⟨rfl, b1_Code, rfl⟩, s_Symbols⟩ := h
  obtain ⟨A0, c0, _, _, rfl, _⟩ := id s_Symbols
  exact ⟨A0, c0, _, rfl, by simp, b1_Code, s_Symbols⟩
structure DSpace where
  Images : List DImage
  Bases : List Int
  Entries : List Int
  deriving DecidableEq
def tSpace : Ty DSpace := ((tImage.sl 113).prod ((intT.sl 3).prod (intT.sl 3))).via fun x => (x.Images, x.Bases, x.Entries)
theorem tSpace_opens : Opens Tryz.prog 65 tSpace := opens_via _ (fun x => ⟨x.1, x.2.1, x.2.2⟩) (fun _ => rfl) (opens_struct Tryz.underlying65 (by kernel_rfl) (opF_cons rfl (by kernel_rfl) (opens_sl Tryz.underlying63 (by kernel_rfl) (by decide) tImage_opens) (opF_cons rfl (by kernel_rfl) (opens_sl Tryz.underlying26 (by kernel_rfl) (by decide) (opens_int Tryz.underlying3)) (opF_one rfl (by kernel_rfl) (opens_sl Tryz.underlying26 (by kernel_rfl) (by decide) (opens_int Tryz.underlying3))))))
theorem tSpace_O {w : World} {cs : List Value} {x : DSpace} {S : List Nat} (h : tSpace.O w cs x S) : ∃ A0 c0 S0 A1 c1 S1 A2 c2 S2, cs = [.slice A0 x.Images.length c0, .slice A1 x.Bases.length c1, .slice A2 x.Entries.length c2] ∧ S = S0 ++ S1 ++ S2 ∧ (tImage.sl 113).O w [.slice A0 x.Images.length c0] x.Images S0 ∧ (intT.sl 3).O w [.slice A1 x.Bases.length c1] x.Bases S1 ∧ (intT.sl 3).O w [.slice A2 x.Entries.length c2] x.Entries S2 := by
  obtain ⟨_, _, _, _, rfl, rfl, s_Images, ⟨_, _, _, _, rfl, rfl, s_Bases, s_Entries⟩⟩ := h
  obtain ⟨A0, c0, _, _, rfl, _⟩ := id s_Images
  obtain ⟨A1, c1, _, _, rfl, _⟩ := id s_Bases
  obtain ⟨A2, c2, _, _, rfl, _⟩ := id s_Entries
  exact ⟨A0, c0, _, A1, c1, _, A2, c2, _, rfl, by simp, s_Images, s_Bases, s_Entries⟩
theorem tSpace_mkO {w : World} {x : DSpace} (A0 : Option Addr) (c0 : Nat) (S0 : List Nat) (A1 : Option Addr) (c1 : Nat) (S1 : List Nat) (A2 : Option Addr) (c2 : Nat) (S2 : List Nat)  (h0 : (tImage.sl 113).O w [.slice A0 x.Images.length c0] x.Images S0) (h1 : (intT.sl 3).O w [.slice A1 x.Bases.length c1] x.Bases S1) (h2 : (intT.sl 3).O w [.slice A2 x.Entries.length c2] x.Entries S2) : tSpace.O w [.slice A0 x.Images.length c0, .slice A1 x.Bases.length c1, .slice A2 x.Entries.length c2] x (S0 ++ S1 ++ S2) := by
  have h : tSpace.O w [.slice A0 x.Images.length c0, .slice A1 x.Bases.length c1, .slice A2 x.Entries.length c2] x (S0 ++ (S1 ++ S2)) := ⟨[.slice A0 x.Images.length c0], [.slice A1 x.Bases.length c1, .slice A2 x.Entries.length c2], S0, (S1 ++ S2), rfl, rfl, h0, ⟨[.slice A1 x.Bases.length c1], [.slice A2 x.Entries.length c2], S1, S2, rfl, rfl, h1, h2⟩⟩
  simpa using h
end Go.Proofs.YtgodpjnbhmahaaaGreat
namespace Go.Proofs.YtgodpjnbhmahaaaGreat
open Go.RowKit
structure DRule where
  Start : Int
  End : Int
  Frame : Bool
  Depth : Int
  deriving DecidableEq
def tRule : Ty DRule := (intT.prod (intT.prod (boolT.prod intT))).via fun x => (x.Start, x.End, x.Frame, x.Depth)
theorem tRule_opens : Opens Tryz.prog 364 tRule := opens_via _ (fun x => ⟨x.1, x.2.1, x.2.2.1, x.2.2.2⟩) (fun _ => rfl) (opens_struct Tryz.underlying364 (by kernel_rfl) (opF_cons rfl (by kernel_rfl) (opens_int Tryz.underlying3) (opF_cons rfl (by kernel_rfl) (opens_int Tryz.underlying3) (opF_cons rfl (by kernel_rfl) (opens_bool Tryz.underlying4) (opF_one rfl (by kernel_rfl) (opens_int Tryz.underlying3))))))
theorem tRule_R {w : World} {B : Nat} {cs : List Value} {x : DRule} (h : tRule.R w B cs x) : cs = [.int .i64 x.Start, .int .i64 x.End, .bool x.Frame, .int .i64 x.Depth] ∧ I64 x.Start ∧ I64 x.End ∧ I64 x.Depth := by
  obtain ⟨_, _, rfl, ⟨rfl, b1_Start, b2_Start⟩, ⟨_, _, rfl, ⟨rfl, b1_End, b2_End⟩, ⟨_, _, rfl, rfl, ⟨rfl, b1_Depth, b2_Depth⟩⟩⟩⟩ := h
  exact ⟨rfl, ⟨b1_Start, b2_Start⟩, ⟨b1_End, b2_End⟩, ⟨b1_Depth, b2_Depth⟩⟩
theorem tRule_O {w : World} {cs : List Value} {x : DRule} {S : List Nat} (h : tRule.O w cs x S) : cs = [.int .i64 x.Start, .int .i64 x.End, .bool x.Frame, .int .i64 x.Depth] ∧ S = [] ∧ I64 x.Start ∧ I64 x.End ∧ I64 x.Depth := by
  obtain ⟨_, _, _, _, rfl, rfl, ⟨rfl, b1_Start, b2_Start, rfl⟩, ⟨_, _, _, _, rfl, rfl, ⟨rfl, b1_End, b2_End, rfl⟩, ⟨_, _, _, _, rfl, rfl, ⟨rfl, rfl⟩, ⟨rfl, b1_Depth, b2_Depth, rfl⟩⟩⟩⟩ := h
  exact ⟨rfl, rfl, ⟨b1_Start, b2_Start⟩, ⟨b1_End, b2_End⟩, ⟨b1_Depth, b2_Depth⟩⟩
structure DRow where
  Offset : Int
  Line : Int
  Start : Bool
  deriving DecidableEq
def tRow : Ty DRow := (intT.prod (intT.prod boolT)).via fun x => (x.Offset, x.Line, x.Start)
theorem tRow_opens : Opens Tryz.prog 366 tRow := opens_via _ (fun x => ⟨x.1, x.2.1, x.2.2⟩) (fun _ => rfl) (opens_struct Tryz.underlying366 (by kernel_rfl) (opF_cons rfl (by kernel_rfl) (opens_int Tryz.underlying3) (opF_cons rfl (by kernel_rfl) (opens_int Tryz.underlying3) (opF_one rfl (by kernel_rfl) (opens_bool Tryz.underlying4)))))
theorem tRow_R {w : World} {B : Nat} {cs : List Value} {x : DRow} (h : tRow.R w B cs x) : cs = [.int .i64 x.Offset, .int .i64 x.Line, .bool x.Start] ∧ I64 x.Offset ∧ I64 x.Line := by
  obtain ⟨_, _, rfl, ⟨rfl, b1_Offset, b2_Offset⟩, ⟨_, _, rfl, ⟨rfl, b1_Line, b2_Line⟩, rfl⟩⟩ := h
  exact ⟨rfl, ⟨b1_Offset, b2_Offset⟩, ⟨b1_Line, b2_Line⟩⟩
theorem tRow_O {w : World} {cs : List Value} {x : DRow} {S : List Nat} (h : tRow.O w cs x S) : cs = [.int .i64 x.Offset, .int .i64 x.Line, .bool x.Start] ∧ S = [] ∧ I64 x.Offset ∧ I64 x.Line := by
  obtain ⟨_, _, _, _, rfl, rfl, ⟨rfl, b1_Offset, b2_Offset, rfl⟩, ⟨_, _, _, _, rfl, rfl, ⟨rfl, b1_Line, b2_Line, rfl⟩, ⟨rfl, rfl⟩⟩⟩ := h
  exact ⟨rfl, rfl, ⟨b1_Offset, b2_Offset⟩, ⟨b1_Line, b2_Line⟩⟩
structure DInline where
  Start : Int
  End : Int
  Level : Int
  Line : Int
  Name : ByteArray
  deriving DecidableEq
def tInline : Ty DInline := (intT.prod (intT.prod (intT.prod (intT.prod strT)))).via fun x => (x.Start, x.End, x.Level, x.Line, x.Name)
theorem tInline_opens : Opens Tryz.prog 361 tInline := opens_via _ (fun x => ⟨x.1, x.2.1, x.2.2.1, x.2.2.2.1, x.2.2.2.2⟩) (fun _ => rfl) (opens_struct Tryz.underlying361 (by kernel_rfl) (opF_cons rfl (by kernel_rfl) (opens_int Tryz.underlying3) (opF_cons rfl (by kernel_rfl) (opens_int Tryz.underlying3) (opF_cons rfl (by kernel_rfl) (opens_int Tryz.underlying3) (opF_cons rfl (by kernel_rfl) (opens_int Tryz.underlying3) (opF_one rfl (by kernel_rfl) (opens_str Tryz.underlying9)))))))
theorem tInline_R {w : World} {B : Nat} {cs : List Value} {x : DInline} (h : tInline.R w B cs x) : cs = [.int .i64 x.Start, .int .i64 x.End, .int .i64 x.Level, .int .i64 x.Line, .string x.Name] ∧ I64 x.Start ∧ I64 x.End ∧ I64 x.Level ∧ I64 x.Line ∧ x.Name.size ≤ 9223372036854775807 := by
  obtain ⟨_, _, rfl, ⟨rfl, b1_Start, b2_Start⟩, ⟨_, _, rfl, ⟨rfl, b1_End, b2_End⟩, ⟨_, _, rfl, ⟨rfl, b1_Level, b2_Level⟩, ⟨_, _, rfl, ⟨rfl, b1_Line, b2_Line⟩, ⟨rfl, b1_Name⟩⟩⟩⟩⟩ := h
  exact ⟨rfl, ⟨b1_Start, b2_Start⟩, ⟨b1_End, b2_End⟩, ⟨b1_Level, b2_Level⟩, ⟨b1_Line, b2_Line⟩, b1_Name⟩
theorem tInline_mkR {w : World} {B : Nat} {x : DInline}  (h0 : I64 x.Start) (h1 : I64 x.End) (h2 : I64 x.Level) (h3 : I64 x.Line) (h4 : x.Name.size ≤ 9223372036854775807) : tInline.R w B [.int .i64 x.Start, .int .i64 x.End, .int .i64 x.Level, .int .i64 x.Line, .string x.Name] x := by
  exact ⟨[.int .i64 x.Start], [.int .i64 x.End, .int .i64 x.Level, .int .i64 x.Line, .string x.Name], rfl, ⟨rfl, h0.1, h0.2⟩, ⟨[.int .i64 x.End], [.int .i64 x.Level, .int .i64 x.Line, .string x.Name], rfl, ⟨rfl, h1.1, h1.2⟩, ⟨[.int .i64 x.Level], [.int .i64 x.Line, .string x.Name], rfl, ⟨rfl, h2.1, h2.2⟩, ⟨[.int .i64 x.Line], [.string x.Name], rfl, ⟨rfl, h3.1, h3.2⟩, ⟨rfl, h4⟩⟩⟩⟩⟩
theorem tInline_O {w : World} {cs : List Value} {x : DInline} {S : List Nat} (h : tInline.O w cs x S) : cs = [.int .i64 x.Start, .int .i64 x.End, .int .i64 x.Level, .int .i64 x.Line, .string x.Name] ∧ S = [] ∧ I64 x.Start ∧ I64 x.End ∧ I64 x.Level ∧ I64 x.Line ∧ x.Name.size ≤ 9223372036854775807 := by
  obtain ⟨_, _, _, _, rfl, rfl, ⟨rfl, b1_Start, b2_Start, rfl⟩, ⟨_, _, _, _, rfl, rfl, ⟨rfl, b1_End, b2_End, rfl⟩, ⟨_, _, _, _, rfl, rfl, ⟨rfl, b1_Level, b2_Level, rfl⟩, ⟨_, _, _, _, rfl, rfl, ⟨rfl, b1_Line, b2_Line, rfl⟩, ⟨rfl, b1_Name, rfl⟩⟩⟩⟩⟩ := h
  exact ⟨rfl, rfl, ⟨b1_Start, b2_Start⟩, ⟨b1_End, b2_End⟩, ⟨b1_Level, b2_Level⟩, ⟨b1_Line, b2_Line⟩, b1_Name⟩
structure DDebug where
  Id : Int
  Symbols : List DSymbol
  Rules : List DRule
  Rows : List DRow
  Inlines : List DInline
  deriving DecidableEq
def tDebug : Ty DDebug := (intT.prod ((tSymbol.sl 193).prod ((tRule.sl 254).prod ((tRow.sl 256).prod (tInline.sl 260))))).via fun x => (x.Id, x.Symbols, x.Rules, x.Rows, x.Inlines)
theorem tDebug_opens : Opens Tryz.prog 235 tDebug := opens_via _ (fun x => ⟨x.1, x.2.1, x.2.2.1, x.2.2.2.1, x.2.2.2.2⟩) (fun _ => rfl) (opens_struct Tryz.underlying235 (by kernel_rfl) (opF_cons rfl (by kernel_rfl) (opens_int Tryz.underlying3) (opF_cons rfl (by kernel_rfl) (opens_sl Tryz.underlying230 (by kernel_rfl) (by decide) tSymbol_opens) (opF_cons rfl (by kernel_rfl) (opens_sl Tryz.underlying231 (by kernel_rfl) (by decide) tRule_opens) (opF_cons rfl (by kernel_rfl) (opens_sl Tryz.underlying232 (by kernel_rfl) (by decide) tRow_opens) (opF_one rfl (by kernel_rfl) (opens_sl Tryz.underlying233 (by kernel_rfl) (by decide) tInline_opens)))))))
theorem tDebug_R {w : World} {B : Nat} {cs : List Value} {x : DDebug} (h : tDebug.R w B cs x) : ∃ A0 c0 A1 c1 A2 c2 A3 c3, cs = [.int .i64 x.Id, .slice A0 x.Symbols.length c0, .slice A1 x.Rules.length c1, .slice A2 x.Rows.length c2, .slice A3 x.Inlines.length c3] ∧ I64 x.Id ∧ (tSymbol.sl 193).R w B [.slice A0 x.Symbols.length c0] x.Symbols ∧ (tRule.sl 254).R w B [.slice A1 x.Rules.length c1] x.Rules ∧ (tRow.sl 256).R w B [.slice A2 x.Rows.length c2] x.Rows ∧ (tInline.sl 260).R w B [.slice A3 x.Inlines.length c3] x.Inlines := by
  obtain ⟨_, _, rfl, ⟨rfl, b1_Id, b2_Id⟩, ⟨_, _, rfl, s_Symbols, ⟨_, _, rfl, s_Rules, ⟨_, _, rfl, s_Rows, s_Inlines⟩⟩⟩⟩ := h
  obtain ⟨A0, c0, rfl, _⟩ := id s_Symbols
  obtain ⟨A1, c1, rfl, _⟩ := id s_Rules
  obtain ⟨A2, c2, rfl, _⟩ := id s_Rows
  obtain ⟨A3, c3, rfl, _⟩ := id s_Inlines
  exact ⟨A0, c0, A1, c1, A2, c2, A3, c3, rfl, ⟨b1_Id, b2_Id⟩, s_Symbols, s_Rules, s_Rows, s_Inlines⟩
theorem tDebug_O {w : World} {cs : List Value} {x : DDebug} {S : List Nat} (h : tDebug.O w cs x S) : ∃ A0 c0 S0 A1 c1 S1 A2 c2 S2 A3 c3 S3, cs = [.int .i64 x.Id, .slice A0 x.Symbols.length c0, .slice A1 x.Rules.length c1, .slice A2 x.Rows.length c2, .slice A3 x.Inlines.length c3] ∧ S = S0 ++ S1 ++ S2 ++ S3 ∧ I64 x.Id ∧ (tSymbol.sl 193).O w [.slice A0 x.Symbols.length c0] x.Symbols S0 ∧ (tRule.sl 254).O w [.slice A1 x.Rules.length c1] x.Rules S1 ∧ (tRow.sl 256).O w [.slice A2 x.Rows.length c2] x.Rows S2 ∧ (tInline.sl 260).O w [.slice A3 x.Inlines.length c3] x.Inlines S3 := by
  obtain ⟨_, _, _, _, rfl, rfl, ⟨rfl, b1_Id, b2_Id, rfl⟩, ⟨_, _, _, _, rfl, rfl, s_Symbols, ⟨_, _, _, _, rfl, rfl, s_Rules, ⟨_, _, _, _, rfl, rfl, s_Rows, s_Inlines⟩⟩⟩⟩ := h
  obtain ⟨A0, c0, _, _, rfl, _⟩ := id s_Symbols
  obtain ⟨A1, c1, _, _, rfl, _⟩ := id s_Rules
  obtain ⟨A2, c2, _, _, rfl, _⟩ := id s_Rows
  obtain ⟨A3, c3, _, _, rfl, _⟩ := id s_Inlines
  exact ⟨A0, c0, _, A1, c1, _, A2, c2, _, A3, c3, _, rfl, by simp, ⟨b1_Id, b2_Id⟩, s_Symbols, s_Rules, s_Rows, s_Inlines⟩
structure DAgent where
  Space : DSpace
  Debugs : List DDebug
  deriving DecidableEq
def tAgent : Ty DAgent := (tSpace.prod (tDebug.sl 97)).via fun x => (x.Space, x.Debugs)
theorem tAgent_opens : Opens Tryz.prog 68 tAgent := opens_via _ (fun x => ⟨x.1, x.2⟩) (fun _ => rfl) (opens_struct Tryz.underlying68 (by kernel_rfl) (opF_cons rfl (by kernel_rfl) tSpace_opens (opF_one rfl (by kernel_rfl) (opens_sl Tryz.underlying66 (by kernel_rfl) (by decide) tDebug_opens))))
theorem tAgent_R {w : World} {B : Nat} {cs : List Value} {x : DAgent} (h : tAgent.R w B cs x) : ∃ A0 c0 A1 c1 A2 c2 A3 c3, cs = [.slice A0 x.Space.Images.length c0, .slice A1 x.Space.Bases.length c1, .slice A2 x.Space.Entries.length c2, .slice A3 x.Debugs.length c3] ∧ (tImage.sl 113).R w B [.slice A0 x.Space.Images.length c0] x.Space.Images ∧ (intT.sl 3).R w B [.slice A1 x.Space.Bases.length c1] x.Space.Bases ∧ (intT.sl 3).R w B [.slice A2 x.Space.Entries.length c2] x.Space.Entries ∧ (tDebug.sl 97).R w B [.slice A3 x.Debugs.length c3] x.Debugs := by
  obtain ⟨_, _, rfl, ⟨_, _, rfl, s_Space_Images, ⟨_, _, rfl, s_Space_Bases, s_Space_Entries⟩⟩, s_Debugs⟩ := h
  obtain ⟨A0, c0, rfl, _⟩ := id s_Space_Images
  obtain ⟨A1, c1, rfl, _⟩ := id s_Space_Bases
  obtain ⟨A2, c2, rfl, _⟩ := id s_Space_Entries
  obtain ⟨A3, c3, rfl, _⟩ := id s_Debugs
  exact ⟨A0, c0, A1, c1, A2, c2, A3, c3, rfl, s_Space_Images, s_Space_Bases, s_Space_Entries, s_Debugs⟩
theorem tAgent_O {w : World} {cs : List Value} {x : DAgent} {S : List Nat} (h : tAgent.O w cs x S) : ∃ A0 c0 S0 A1 c1 S1 A2 c2 S2 A3 c3 S3, cs = [.slice A0 x.Space.Images.length c0, .slice A1 x.Space.Bases.length c1, .slice A2 x.Space.Entries.length c2, .slice A3 x.Debugs.length c3] ∧ S = S0 ++ S1 ++ S2 ++ S3 ∧ (tImage.sl 113).O w [.slice A0 x.Space.Images.length c0] x.Space.Images S0 ∧ (intT.sl 3).O w [.slice A1 x.Space.Bases.length c1] x.Space.Bases S1 ∧ (intT.sl 3).O w [.slice A2 x.Space.Entries.length c2] x.Space.Entries S2 ∧ (tDebug.sl 97).O w [.slice A3 x.Debugs.length c3] x.Debugs S3 := by
  obtain ⟨_, _, _, _, rfl, rfl, ⟨_, _, _, _, rfl, rfl, s_Space_Images, ⟨_, _, _, _, rfl, rfl, s_Space_Bases, s_Space_Entries⟩⟩, s_Debugs⟩ := h
  obtain ⟨A0, c0, _, _, rfl, _⟩ := id s_Space_Images
  obtain ⟨A1, c1, _, _, rfl, _⟩ := id s_Space_Bases
  obtain ⟨A2, c2, _, _, rfl, _⟩ := id s_Space_Entries
  obtain ⟨A3, c3, _, _, rfl, _⟩ := id s_Debugs
  exact ⟨A0, c0, _, A1, c1, _, A2, c2, _, A3, c3, _, rfl, by simp, s_Space_Images, s_Space_Bases, s_Space_Entries, s_Debugs⟩
end Go.Proofs.YtgodpjnbhmahaaaGreat
namespace Go.Proofs.YtgodpjnbhmahaaaGreat
open Go.RowKit
def btw (x a b : Int) : Bool := decide (a ≤ x) && decide (x ≤ b)
theorem btw_iff {x a b : Int} : btw x a b = true ↔ a ≤ x ∧ x ≤ b := by simp [btw]
theorem btw_mk {x a b : Int} (h1 : a ≤ x) (h2 : x ≤ b) : btw x a b = true := btw_iff.2 ⟨h1, h2⟩
theorem wrap64_small {n : Int} (h1 : -9223372036854775808 ≤ n) (h2 : n ≤ 9223372036854775807) : wrap64 n = n := IntWalk.wrap64_in n ⟨h1, h2⟩
theorem ret_bool {a b : Bool} (h : a = b) : Ending.returned (.bool a) = .returned (.bool b) := by rw [h]
theorem ret_int {a b : Int} (h : a = b) : Ending.returned (.int .i64 a) = .returned (.int .i64 b) := by rw [h]
theorem btw_dec (x a b : Int) (h : a ≤ x) : decide (x ≤ b) = btw x a b := by simp [btw, h]
theorem btw_not (x a b : Int) (h : x < a) : false = btw x a b := by simp [btw]; omega
theorem in_i (x a b : Int) (w : World) : Calls Tryz.prog 73 #[.int .i64 x, .int .i64 a, .int .i64 b] w fun e w' => e = .returned (.bool (btw x a b)) ∧ w = w' := by
  go_enter Tryz.func73, Tryz.ntmps73
  go_wp2
  · go_ret
    exact ⟨ret_bool (btw_dec x a b ‹_›), rfl⟩
  · go_ret
    exact ⟨ret_bool (btw_not x a b ‹_›), rfl⟩
theorem in_s (x a b : Int) (w : World) : Calls Tryz.prog 78 #[.int .i64 x, .int .i64 a, .int .i64 b] w fun e w' => e = .returned (.bool (btw x a b)) ∧ w = w' := by
  go_enter Tryz.func78, Tryz.ntmps78
  go_wp2
  · go_ret
    exact ⟨ret_bool (btw_dec x a b ‹_›), rfl⟩
  · go_ret
    exact ⟨ret_bool (btw_not x a b ‹_›), rfl⟩
theorem quiet_left {P : Program} {f : FuncId} {args : Array Value} {w : World} {n : Nat} {v : Value}
    (h : Calls P f args (w.drewN n) fun e w' => e = .returned v ∧ w.drewN n = w') : Calls P f args (w.drewN n) fun e w'' => e = .returned v ∧ ∃ m, w'' = w.drewN m :=
  h.mono fun _ _ ⟨he, hm⟩ => ⟨he, n, hm.symm⟩
theorem in_iv {x a b : Int} {v : Bool} (h : btw x a b = v) (w : World) (n : Nat) : Calls Tryz.prog 73 #[.int .i64 x, .int .i64 a, .int .i64 b] (w.drewN n) fun e w'' => e = .returned (.bool v) ∧ ∃ m, w'' = w.drewN m := by
  subst h
  exact quiet_left (in_i _ _ _ _)
theorem in_sv {x a b : Int} {v : Bool} (h : btw x a b = v) (w : World) (n : Nat) : Calls Tryz.prog 78 #[.int .i64 x, .int .i64 a, .int .i64 b] (w.drewN n) fun e w'' => e = .returned (.bool v) ∧ ∃ m, w'' = w.drewN m := by
  subst h
  exact quiet_left (in_s _ _ _ _)
end Go.Proofs.YtgodpjnbhmahaaaGreat
namespace Go.Proofs.YtgodpjnbhmahaaaGreat
open Go.RowKit
def rule1 (last : Int) (r : DRule) : Bool := decide (last ≤ r.Start) && decide (r.Start < r.End) && decide (r.End ≤ 1000000) && btw r.Depth 0 1200 && !(r.Frame && decide (r.Depth ≠ 0))
theorem rule1_iff {last : Int} {r : DRule} : rule1 last r = true ↔ last ≤ r.Start ∧ r.Start < r.End ∧ r.End ≤ 1000000 ∧ btw r.Depth 0 1200 = true ∧ (r.Frame = true → r.Depth = 0) := by
  unfold rule1
  simp only [Bool.and_eq_true, decide_eq_true_eq, Bool.not_eq_true', Bool.and_eq_false_iff, decide_eq_false_iff_not, Classical.not_not]
  constructor
  · rintro ⟨⟨⟨⟨h1, h2⟩, h3⟩, h4⟩, h5⟩
    refine ⟨h1, h2, h3, h4, fun hf => ?_⟩
    rcases h5 with h5 | h5
    · rw [hf] at h5; cases h5
    · exact h5
  · rintro ⟨h1, h2, h3, h4, h5⟩
    refine ⟨⟨⟨⟨h1, h2⟩, h3⟩, h4⟩, ?_⟩
    cases hf : r.Frame with
    | false => exact .inl rfl
    | true => exact .inr (h5 hf)
theorem rule1_no {last : Int} {r : DRule} (h : ¬ (last ≤ r.Start ∧ r.Start < r.End ∧ r.End ≤ 1000000 ∧ btw r.Depth 0 1200 = true ∧ (r.Frame = true → r.Depth = 0))) : rule1 last r = false := by
  cases hq : rule1 last r with
  | false => rfl
  | true => exact absurd (rule1_iff.1 hq) h
def rulesG : Int → List DRule → Bool
  | _, [] => true
  | last, r :: rs => rule1 last r && rulesG r.End rs
def ruleAt : List DRule → Int → Nat → Int
  | [], _, _ => -1
  | r :: rs, off, k => if r.Start ≤ off ∧ off < r.End then (k : Int) else ruleAt rs off (k + 1)
def findRule (rs : List DRule) (off : Int) : Int := if rulesG 0 rs = true then ruleAt rs off 0 else -1
theorem rulesG_at {rs : List DRule} {k : Nat} {r : DRule} (h : rs[k]? = some r) (last : Int) : rulesG last (rs.drop k) = (rule1 last r && rulesG r.End (rs.drop (k + 1))) := by
  obtain ⟨h1, rfl⟩ := List.getElem?_eq_some_iff.1 h
  rw [List.drop_eq_getElem_cons h1]
  rfl
theorem ruleAt_at {rs : List DRule} {k : Nat} {r : DRule} (h : rs[k]? = some r) (off : Int) : ruleAt (rs.drop k) off k = if r.Start ≤ off ∧ off < r.End then (k : Int) else ruleAt (rs.drop (k + 1)) off (k + 1) := by
  obtain ⟨h1, rfl⟩ := List.getElem?_eq_some_iff.1 h
  rw [List.drop_eq_getElem_cons h1]
  rfl
/-- the end of the rule ahead of place k; 0 ahead of all -/
def lastR (rs : List DRule) (k : Nat) : Int := match k with
  | 0 => 0
  | j + 1 => (rs[j]?.map DRule.End).getD 0
def row1 (prev : Int) (r : DRow) : Bool := btw r.Offset 0 1000000 && btw r.Line 0 59 && decide (prev < r.Offset)
def rowsG : Int → List DRow → Bool
  | _, [] => true
  | p, r :: rs => row1 p r && rowsG r.Offset rs
def rowAt : List DRow → Int → Nat → Int → Int
  | [], _, _, f => f
  | r :: rs, off, k, f => rowAt rs off (k + 1) (if r.Offset ≤ off then (k : Int) else f)
def findRow (rs : List DRow) (off : Int) : Int := if rowsG (-1) rs = true then rowAt rs off 0 (-1) else -1
theorem rowsG_at {rs : List DRow} {k : Nat} {r : DRow} (h : rs[k]? = some r) (p : Int) : rowsG p (rs.drop k) = (row1 p r && rowsG r.Offset (rs.drop (k + 1))) := by
  obtain ⟨h1, rfl⟩ := List.getElem?_eq_some_iff.1 h
  rw [List.drop_eq_getElem_cons h1]
  rfl
theorem rowAt_at {rs : List DRow} {k : Nat} {r : DRow} (h : rs[k]? = some r) (off f : Int) : rowAt (rs.drop k) off k f = rowAt (rs.drop (k + 1)) off (k + 1) (if r.Offset ≤ off then (k : Int) else f) := by
  obtain ⟨h1, rfl⟩ := List.getElem?_eq_some_iff.1 h
  rw [List.drop_eq_getElem_cons h1]
  rfl
end Go.Proofs.YtgodpjnbhmahaaaGreat
namespace Go.Proofs.YtgodpjnbhmahaaaGreat
section
variable {α : Type}
def cntL (cnt : α → Nat) (xs : List α) : Nat := (xs.map cnt).sum
def mkL (mk : α → Int → α) (cnt : α → Nat) : List α → Int → List α
  | [], _ => []
  | x :: xs, k => mk x k :: mkL mk cnt xs (k + (cnt x : Nat))
variable {mk : α → Int → α} {cnt : α → Nat}
theorem cntL_cons (x : α) (xs : List α) : cntL cnt (x :: xs) = cnt x + cntL cnt xs := by simp [cntL]
theorem cntL_snoc {xs : List α} {i : Nat} {x : α} (h : xs[i]? = some x) : cntL cnt (xs.take (i + 1)) = cntL cnt (xs.take i) + cnt x := by
  rw [take_snoc h]; simp [cntL]
theorem cntL_take_le (xs : List α) (i : Nat) : cntL cnt (xs.take i) ≤ cntL cnt xs := by
  induction xs generalizing i with
  | nil => simp [cntL]
  | cons x xs ih =>
    cases i with
    | zero => simp [cntL]
    | succ i => rw [List.take_succ_cons, cntL_cons, cntL_cons]; have := ih i; omega
theorem mkL_length (xs : List α) (k : Int) : (mkL mk cnt xs k).length = xs.length := by
  induction xs generalizing k with
  | nil => rfl
  | cons x xs ih => simp [mkL, ih]
theorem mkL_get {xs : List α} {i : Nat} {x : α} (h : xs[i]? = some x) (k : Int) : (mkL mk cnt xs k)[i]? = some (mk x (k + (cntL cnt (xs.take i) : Nat))) := by
  induction xs generalizing i k with
  | nil => simp at h
  | cons y ys ih =>
    cases i with
    | zero => simp at h; subst h; simp [mkL, cntL]
    | succ i =>
      rw [List.getElem?_cons_succ] at h
      simp only [mkL, List.getElem?_cons_succ, List.take_succ_cons, cntL_cons]
      rw [ih h]
      congr 2
      omega
/-- the first i are marked -/
def mkTo (mk : α → Int → α) (cnt : α → Nat) (xs : List α) (k : Int) (i : Nat) : List α := (mkL mk cnt xs k).take i ++ xs.drop i
theorem mkTo_zero (xs : List α) (k : Int) : mkTo mk cnt xs k 0 = xs := by simp [mkTo]
theorem mkTo_all (xs : List α) (k : Int) : mkTo mk cnt xs k xs.length = mkL mk cnt xs k := by
  unfold mkTo
  rw [List.take_of_length_le (by rw [mkL_length]; omega), List.drop_length, List.append_nil]
theorem mkTo_get {xs : List α} {i : Nat} {x : α} (h : xs[i]? = some x) (k : Int) : (mkTo mk cnt xs k i)[i]? = some x := by
  have hi := (List.getElem?_eq_some_iff.1 h).1
  unfold mkTo
  rw [List.getElem?_append_right (by rw [List.length_take, mkL_length]; omega), List.length_take, mkL_length, Nat.min_eq_left (by omega), Nat.sub_self, List.getElem?_drop, Nat.add_zero, h]
theorem mkTo_set {xs : List α} {i : Nat} {x : α} (h : xs[i]? = some x) (k : Int) : (mkTo mk cnt xs k i).set i (mk x (k + (cntL cnt (xs.take i) : Nat))) = mkTo mk cnt xs k (i + 1) := by
  have hi := (List.getElem?_eq_some_iff.1 h).1
  have hm := mkL_get (mk := mk) (cnt := cnt) h k
  unfold mkTo
  rw [take_snoc hm, List.set_append_right _ _ (by rw [List.length_take, mkL_length]; omega), List.length_take, mkL_length, Nat.min_eq_left (by omega), Nat.sub_self]
  have e : xs.drop i = x :: xs.drop (i + 1) := by
    rw [List.drop_eq_getElem_cons hi, (List.getElem?_eq_some_iff.1 h).2]
  rw [e, List.set_cons_zero, List.append_assoc]
  rfl
end
end Go.Proofs.YtgodpjnbhmahaaaGreat
namespace Go.Proofs.YtgodpjnbhmahaaaGreat
open Go.RowKit
/-- cells p + j .. of an array, stored one by one -/
def setA (cur : Array Value) (p : Nat) : Nat → List Value → Array Value
  | _, [] => cur
  | j, v :: vs => setA (cur.setIfInBounds (p + j) v) p (j + 1) vs
def setL (l : List Value) (p : Nat) : Nat → List Value → List Value
  | _, [] => l
  | j, v :: vs => setL (l.set (p + j) v) p (j + 1) vs
theorem setA_toList (vs : List Value) : ∀ (cur : Array Value) (p j : Nat), (setA cur p j vs).toList = setL cur.toList p j vs := by
  induction vs with
  | nil => intro cur p j; rfl
  | cons v vs ih => intro cur p j; simp only [setA, setL]; rw [ih, Array.toList_setIfInBounds]
theorem setL_length (vs : List Value) : ∀ (l : List Value) (p j : Nat), (setL l p j vs).length = l.length := by
  induction vs with
  | nil => intro l p j; rfl
  | cons v vs ih => intro l p j; simp only [setL]; rw [ih, List.length_set]
theorem setA_size (vs : List Value) (cur : Array Value) (p j : Nat) : (setA cur p j vs).size = cur.size := by
  rw [← Array.length_toList, setA_toList, setL_length, Array.length_toList]
theorem setL_eq (vs : List Value) : ∀ (l : List Value) (p j : Nat), p + j + vs.length ≤ l.length → setL l p j vs = l.take (p + j) ++ (vs ++ l.drop (p + j + vs.length)) := by
  induction vs with
  | nil => intro l p j _; simp [setL]
  | cons v vs ih =>
    intro l p j h
    simp only [List.length_cons] at h
    have hl : (l.take (p + j)).length = p + j := by rw [List.length_take]; omega
    simp only [setL]
    rw [ih _ _ _ (by rw [List.length_set]; omega), List.length_cons, show p + (j + 1) = p + j + 1 from rfl, List.drop_set_of_lt (by omega), List.take_add_one, List.take_set_of_le (Nat.le_refl _), List.getElem?_set_self (by omega)]
    simp only [Option.toList_some, List.append_assoc, List.cons_append, List.nil_append]
    rw [show p + j + 1 + vs.length = p + j + (vs.length + 1) from by omega]
theorem setL_take (vs : List Value) (l : List Value) (p : Nat) (h : p + vs.length ≤ l.length) : (setL l p 0 vs).take (p + vs.length) = l.take p ++ vs := by
  rw [setL_eq vs l p 0 (by omega), ← List.append_assoc]
  rw [List.take_append_of_le_length (by rw [List.length_append, List.length_take]; omega), List.take_of_length_le (by rw [List.length_append, List.length_take]; omega)]
  rfl
/-- one round of toXS: the j-th element's cells go into the row -/
theorem rows_put {α : Type} {T : Ty α} {e : TypeId} {w : World} {cur : Array Value} {os os1 : Array Obj} {d d1 : Nat} {xs : List α} {x : α} {j n : Nat} {S' : List Nat} {ec : List Value}
    (hr : Rows T (gro (w.alloc (.cells cur e)) os d) (cur.toList.take (j * T.size)) (xs.take j) S') (hN : S'.Nodup) (hL : ∀ b ∈ S', w.heap.size + 1 ≤ b)
    (hsz : cur.size = n * T.size) (hj : j < n) (hx : xs[j]? = some x)
    (hF : Fresh T (gro (w.alloc (.cells cur e)) os d) (gro (w.alloc (.cells cur e)) os1 d1) ec x) (hg : Gro (gro (w.alloc (.cells cur e)) os d) (gro (w.alloc (.cells cur e)) os1 d1)) :
    ∃ S'', Rows T (gro (w.alloc (.cells (setA cur (j * T.size) 0 ec) e)) os1 d1) ((setA cur (j * T.size) 0 ec).toList.take ((j + 1) * T.size)) (xs.take (j + 1)) S'' ∧ S''.Nodup ∧ (∀ b ∈ S'', w.heap.size + 1 ≤ b) ∧ (setA cur (j * T.size) 0 ec).size = n * T.size := by
  obtain ⟨S, hO, hN2, hL2⟩ := hF
  have hlen : ec.length = T.size := T.lenO hO
  have hle : (j + 1) * T.size ≤ n * T.size := Nat.mul_le_mul_right _ hj
  have hadd : (j + 1) * T.size = j * T.size + T.size := by rw [Nat.add_mul, Nat.one_mul]
  have key : ∀ k, w.heap.size + 1 ≤ k → (gro (w.alloc (.cells (setA cur (j * T.size) 0 ec) e)) os1 d1).heap[k]? = (gro (w.alloc (.cells cur e)) os1 d1).heap[k]? := by
    intro k hk
    have h1 : ∀ o : Obj, (w.alloc o).heap.size = w.heap.size + 1 := fun o => World.size_alloc w o
    simp only [gro]
    rw [Array.getElem?_append_right (by rw [h1]; exact hk), Array.getElem?_append_right (by rw [h1]; exact hk), h1, h1]
  have hU := Rows.lt hr
  have r1 : Rows T (gro (w.alloc (.cells (setA cur (j * T.size) 0 ec) e)) os1 d1) (cur.toList.take (j * T.size)) (xs.take j) S' :=
    Rows.keep hr (fun k hk => (key k (hL k hk)).trans (hg.block (hU k hk)))
  have hL3 : ∀ b ∈ S, w.heap.size + 1 ≤ b := fun b hb => by have := hL2 b hb; rw [gro_size, World.size_alloc] at this; omega
  have r2 := Rows.snoc r1 (T.keepO hO (fun k hk => key k (hL3 k hk)))
  refine ⟨S' ++ S, ?_, List.nodup_append.2 ⟨hN, hN2, fun a ha b hb he => ?_⟩, fun b hb => ?_, ?_⟩
  · rw [setA_toList, hadd, ← hlen, setL_take _ _ _ (by rw [hlen]; have : cur.toList.length = cur.size := Array.length_toList; omega), hlen, take_snoc hx]
    exact r2
  · have h1 := hU a ha
    have h2 := hL2 b hb
    omega
  · rcases List.mem_append.1 hb with h | h
    · exact hL b h
    · exact hL3 b h
  · rw [setA_size]; exact hsz
theorem rows_done {α : Type} {T : Ty α} {e : TypeId} {w : World} {cur : Array Value} {os : Array Obj} {d : Nat} {xs : List α} {S' : List Nat} {p : Nat}
    (hr : Rows T (gro (w.alloc (.cells cur e)) os d) (cur.toList.take p) (xs.take xs.length) S') (hN : S'.Nodup) (hL : ∀ b ∈ S', w.heap.size + 1 ≤ b) (hsz : cur.size = xs.length * T.size) (hp : xs.length * T.size ≤ p) (hm : xs.length ≤ 9223372036854775807) :
    RetSl T e xs w (.returned (.slice (some ⟨w.heap.size, 0, none⟩) xs.length xs.length)) (gro (w.alloc (.cells cur e)) os d) := by
  rw [List.take_length, List.take_of_length_le (by rw [Array.length_toList, hsz]; exact hp)] at hr
  refine ⟨_, _, rfl, ⟨w.heap.size :: S', own_made (e := e) ?_ hr hm, List.nodup_cons.2 ⟨fun h => by have := hL _ h; omega, hN⟩, fun b hb => ?_⟩, ((Gro.refl _).alloc _).more _ _⟩
  · rw [gro_get _ _ _ (by simp), World.alloc]
    simp
  · rcases List.mem_cons.1 hb with h | h
    · omega
    · have := hL b h; omega
/-- cells of a row stored one by one -/
def setRow (w : World) (g p : Nat) : Nat → List Value → World
  | _, [] => w
  | j, v :: vs => setRow (w.setCell ⟨g, p + j, none⟩ v) g p (j + 1) vs
theorem setRow_at (vs : List Value) : ∀ (w : World) (g p j : Nat) (cur : Array Value) (e : TypeId), w.heap[g]? = some (.cells cur e (0, 0)) → (setRow w g p j vs).heap[g]? = some (.cells (setA cur p j vs) e (0, 0)) := by
  induction vs with
  | nil => intro w g p j cur e h; exact h
  | cons v vs ih => intro w g p j cur e h; exact ih _ _ _ _ _ _ (heap_setCell_at h _ _)
theorem setRow_only (vs : List Value) {S : List Nat} {g : Nat} (hg : g ∈ S) : ∀ (w0 w : World) (p j : Nat), OnlyS S w0 w → OnlyS S w0 (setRow w g p j vs) := by
  induction vs with
  | nil => intro w0 w p j h; exact h
  | cons v vs ih => intro w0 w p j h; exact ih _ _ _ _ (h.setCell (p := ⟨g, p + j, none⟩) hg v)
theorem setRow_other (vs : List Value) : ∀ (w : World) (g p j k : Nat), k ≠ g → (setRow w g p j vs).heap[k]? = w.heap[k]? := by
  induction vs with
  | nil => intro w g p j k _; rfl
  | cons v vs ih => intro w g p j k hk; exact (ih _ _ _ _ _ hk).trans (Below.heap_setCell w ⟨g, p + j, none⟩ v k hk)
/-- the k-th element of an owned list: where it lies; and what storing all its cells anew leaves -/
theorem own_put {α : Type} {T : Ty α} {e : TypeId} {w : World} {A : Option Addr} {n c : Nat} {xs : List α} {S : List Nat} (h : (T.sl e).O w [.slice A n c] xs S) (hS : S.Nodup) {k : Nat} {x : α} (hx : xs[k]? = some x) :
    ∃ g ec Sc, A = some ⟨g, 0, none⟩ ∧ g ∈ S ∧ g < w.heap.size ∧ g ∉ Sc ∧ (∀ j ∈ Sc, j ∈ S) ∧ T.O w ec x Sc ∧ (∀ j, w.frozen? ⟨g, j, none⟩ = false) ∧ (∀ j u, ec[j]? = some u → w.cell? ⟨g, k * T.size + j, none⟩ = some u) ∧
      (∀ ec' y, T.O w ec' y Sc → (T.sl e).O (setRow w g (k * T.size) 0 ec') [.slice A n c] (xs.set k y) S ∧ OnlyS S w (setRow w g (k * T.size) 0 ec')) := by
  obtain ⟨A', c', ecs, S', h1, h2, h3, rfl⟩ := h
  injection h1 with h1 _
  injection h1 with hA hn hc
  subst hA hn hc
  have hk : k < xs.length := (List.getElem?_eq_some_iff.1 hx).1
  obtain ⟨a, ec, b, Sa, Sc, Sb, rfl, rfl, hl, ha, hO, hb⟩ := Rows.part h3 hx
  obtain ⟨hlen, hrest⟩ := h2
  rcases hrest with ⟨_, hn⟩ | ⟨g, cap, cur, hv, hbase, hg, hnc, hcm, hcs, htake⟩
  · omega
  · injection hv with hA _ hc
    subst hA hc
    have hgl : g < w.heap.size := (Array.getElem?_eq_some_iff.1 hg).1
    simp only [blockOf, List.singleton_append, List.nodup_cons, List.nodup_append, List.mem_append, not_or] at hS
    obtain ⟨⟨hga, hgc, hgb⟩, hna, ⟨hncd, hnb, hdcb⟩, hda⟩ := hS
    have hec : ec.length = T.size := T.lenO hO
    have hlc : (a ++ (ec ++ b)).length ≤ cur.size := by
      rw [← htake, List.length_take]
      have : cur.toList.length = cur.size := Array.length_toList
      omega
    have hcell : ∀ (j : Nat) (u : Value), (a ++ (ec ++ b))[j]? = some u → cur[j]? = some u := by
      intro j u hu
      rw [← htake, List.getElem?_take] at hu
      split at hu
      · simpa using hu
      · cases hu
    refine ⟨g, ec, Sc, rfl, by simp [blockOf], hgl, hgc, fun j hj => by simp [hj], hO, fun j => by simp [World.frozen?, hg], fun j u hu => ?_, fun ec' y hy => ?_⟩
    · rw [cell_of_row w g _ cur e (0, 0) hg]
      apply hcell
      rw [List.getElem?_append_right (by omega), hl, Nat.add_sub_cancel_left, List.getElem?_append_left (List.getElem?_eq_some_iff.1 hu).1]
      exact hu
    · have hec' : ec'.length = T.size := T.lenO hy
      have hother : ∀ i, i ≠ g → (setRow w g (k * T.size) 0 ec').heap[i]? = w.heap[i]? := fun i hi => setRow_other _ _ _ _ _ _ hi
      have hl2 : (a ++ (ec ++ b)).length = a.length + ec.length + b.length := by simp only [List.length_append]; omega
      refine ⟨⟨some ⟨g, 0, none⟩, c, a ++ (ec' ++ b), _, by rw [List.length_set], ⟨?_, .inr ⟨g, c, setA cur (k * T.size) 0 ec', by rw [List.length_set], hbase, setRow_at _ _ _ _ _ _ _ hg, by simpa using hnc, hcm, by rw [setA_size]; exact hcs, ?_⟩⟩, Rows.join hx (Rows.keep ha ?_) (T.keepO hy ?_) (Rows.keep hb ?_), rfl⟩, ?_⟩
      · rw [List.length_set, ← hlen]
        simp [hec, hec']
      · rw [List.length_set]
        rw [setA_toList, setL_eq _ _ _ _ (by rw [hec']; have : cur.toList.length = cur.size := Array.length_toList; omega)]
        have hM : xs.length * T.size = a.length + ec.length + b.length := by rw [← hlen, hl2]
        have e1 : cur.toList.take (k * T.size + 0) = a := by
          have h := congrArg (List.take (k * T.size)) htake
          rw [List.take_take, Nat.min_eq_left (by omega)] at h
          rw [Nat.add_zero, h, List.take_append_of_le_length (Nat.le_of_eq hl.symm), List.take_of_length_le (Nat.le_of_eq hl)]
        have e2 : (cur.toList.drop (k * T.size + 0 + ec'.length)).take (xs.length * T.size - (k * T.size + T.size)) = b := by
          have h := congrArg (List.drop (k * T.size + T.size)) htake
          have hae : (a ++ ec).length = k * T.size + T.size := by rw [List.length_append, hl, hec]
          rw [List.drop_take, ← List.append_assoc, List.drop_append_of_le_length (Nat.le_of_eq hae.symm), List.drop_of_length_le (Nat.le_of_eq hae), List.nil_append] at h
          rw [hec', Nat.add_zero]
          exact h
        have hae' : (a ++ ec').length = k * T.size + T.size := by rw [List.length_append, hl, hec']
        rw [e1, ← List.append_assoc, List.take_append, List.take_of_length_le (by rw [hae']; omega), hae', e2, List.append_assoc]
      · exact fun i hi => hother i (fun e => hga (e ▸ hi))
      · exact fun i hi => hother i (fun e => hgc (e ▸ hi))
      · exact fun i hi => hother i (fun e => hgb (e ▸ hi))
      · exact setRow_only _ (by simp [blockOf]) _ _ _ _ (OnlyS.refl _ _)
end Go.Proofs.YtgodpjnbhmahaaaGreat
namespace Go.Proofs.YtgodpjnbhmahaaaGreat
open Go.RowKit
/-- what is asked of the types of a slice (t) and of its elements (e) -/
structure Elem (P : Program) (t e : TypeId) {α : Type} (T : Ty α) (bytes : Nat) : Prop where
  ht : P.underlying t = some (.slice e)
  info : ∃ i z, P.info? e = some i ∧ i.zero = some z ∧ i.size = T.size ∧ i.bytes = bytes ∧ z.cells.size = T.size
  pos : 0 < T.size
/-- 'xs[k:]', its address under one name -/
theorem run_from {P : Program} {t e e' : TypeId} {α : Type} {T : Ty α} {bytes : Nat} (hE : Elem P t e T bytes) {w : World} {B : Nat} {A : Option Addr} {n c k : Nat} {xs : List α} (h : (T.sl e').R w B [.slice A n c] xs) (hk : k ≤ n) :
    ∃ A', (∀ W, (Instr.sliceAt t (.slice A n c) (some (.int .i64 (k : Int))) none none).run P W = .ok (.slice A' (n - k) (c - k)) W) ∧ (T.sl e').R w B [.slice A' (n - k) (c - k)] (xs.drop k) := by
  refine ⟨_, fun W => ?_, sl_drop h hk⟩
  obtain ⟨i, z, hi, hz, hsize, hby, hzs⟩ := hE.info
  have hnc : n ≤ c := by
    obtain ⟨A', c', h1, h2, _⟩ := h
    injection h1 with h1 _
    injection h1 with hA hn hc
    subst hA hn hc
    exact h2
  simp [Instr.sliceAt, Instr.slice, Instr.sliceBounds, Instr.sliceBound, asIntOf, run_underlying hE.ht, sizeOf, typeInfo, hi, hsize]
  intro h
  omega
/-- elements without memory of their own -/
def Flat {α : Type} (T : Ty α) : Prop := ∀ {w B cs x}, T.R w B cs x → ∀ w', T.O w' cs x []
theorem flat_int : Flat intT := fun h _ => ⟨h.1, h.2.1, h.2.2, rfl⟩
theorem flat_str : Flat strT := fun h _ => ⟨h.1, h.2, rfl⟩
theorem flat_prod {α β : Type} {T : Ty α} {U : Ty β} (h : Flat T) (k : Flat U) : Flat (T.prod U) := fun ⟨c1, c2, h1, h2, h3⟩ w' => ⟨c1, c2, [], [], h1, rfl, h h2 w', k h3 w'⟩
theorem flat_via {α β : Type} {T : Ty α} (f : β → α) (h : Flat T) : Flat (T.via f) := fun h1 w' => h h1 w'
section
variable {α : Type} {T : Ty α} {e : TypeId}
theorem fresh_nil (W0 W : World) : Fresh (T.sl e) W0 W [.slice none 0 0] [] :=
  ⟨[], ⟨none, 0, [], [], rfl, World.ownsRow_nil W 0 e T.size, ⟨rfl, rfl⟩, rfl⟩, by simp, by simp⟩
theorem fresh_empty {W0 W : World} (hg : Gro W0 W) {g : Nat} (hgW : g = W.heap.size) : Fresh (T.sl e) W0 (W.alloc (.cells #[] e)) [.slice (some ⟨g, 0, none⟩) 0 0] [] := by
  subst hgW
  refine ⟨[W.heap.size], ⟨_, 0, [], [], rfl, ?_, ⟨rfl, rfl⟩, by simp [blockOf]⟩, by simp, fun b hb => ?_⟩
  · exact World.ownsRow_made W #[] 0 (Nat.zero_le _) (Nat.zero_le _) (by simp)
  · simp at hb
    subst hb
    exact hg.size
/-- the rows of a flat list that is read -/
theorem rows_of_flat (hf : Flat T) {w w' : World} {B g off : Nat} : ∀ (xs : List α) (k : Nat), (∀ i x, xs[i]? = some x → ∃ ec, T.R w B ec x ∧ ∀ (j : Nat) (u : Value), ec[j]? = some u → w.cell? ⟨g, off + (k + i) * T.size + j, none⟩ = some u) →
    ∃ cs, Rows T w' cs xs [] ∧ cs.length = xs.length * T.size ∧ ∀ (j : Nat) (u : Value), cs[j]? = some u → w.cell? ⟨g, off + k * T.size + j, none⟩ = some u
  | [], k, _ => ⟨[], ⟨rfl, rfl⟩, by simp, fun j u hu => by simp at hu⟩
  | x :: xs, k, h => by
    obtain ⟨ec, hR, hc⟩ := h 0 x rfl
    obtain ⟨cs, h1, h2, h3⟩ := rows_of_flat hf xs (k + 1) (fun i y hy => by
      obtain ⟨ec', hR', hc'⟩ := h (i + 1) y (by simpa using hy)
      exact ⟨ec', hR', fun j u hu => by have := hc' j u hu; rw [show k + (i + 1) = k + 1 + i from by omega] at this; exact this⟩)
    have hl := T.lenR hR
    refine ⟨ec ++ cs, ⟨ec, cs, [], [], rfl, rfl, hf hR _, h1⟩, by rw [List.length_append, hl, h2, List.length_cons, Nat.add_mul, Nat.one_mul, Nat.add_comm], fun j u hu => ?_⟩
    rw [List.getElem?_append] at hu
    split at hu
    · exact hc j u hu
    · rename_i hj
      have := h3 _ u hu
      rw [Nat.add_mul, Nat.one_mul] at this
      rw [hl] at hj
      rw [hl] at this
      rw [show off + k * T.size + j = off + (k * T.size + T.size) + (j - T.size) from by omega]
      exact this
section
variable {P : Program} {t ty : TypeId} {bytes : Nat}
/-- the run: new cells behind an owned list -/
theorem run_append_fresh (hE : Elem P t e T bytes) {W0 W : World} {hi0 : Nat} {A : Option Addr} {n c : Nat} {xs : List α} (h : Fre (T.sl e) W0 hi0 W [.slice A n c] xs)
    {ad : Addr} {m c' : Nat} {ys : List α} {news : List Value} {Sy : List Nat} (hr : Rows T W news ys Sy) (hm : m = ys.length) (hcell : ∀ j u, news[j]? = some u → W.cell? (ad.add j) = some u)
    (hSy : Sy.Nodup) {m0 : Nat} (hm0 : m0 ≤ W.heap.size) (hSy0 : ∀ b ∈ Sy, W0.heap.size ≤ b ∧ hi0 ≤ b ∧ m0 ≤ b)
    {L : Nat} (hL : L = n + m) (hb : L * bytes ≤ 140737488355328) (h63 : L ≤ 9223372036854775807) :
    ∃ A' c'' W', (Builtin.append_ #[t, t] ty #[.slice A n c, .slice (some ad) m c']).run P W = .ok (.slice A' L c'') W' ∧ (∃ row, W.grownBy W' row ∧ ∀ k, row = some k → W0.heap.size ≤ k ∧ k < hi0) ∧ Fr2 (T.sl e) W0 hi0 m0 W' [.slice A' L c''] (xs ++ ys) := by
  subst hL
  obtain ⟨S, hO, hN, hS01⟩ := h
  have hS0 : ∀ b ∈ S, W0.heap.size ≤ b := fun b hb => (hS01 b hb).1
  have hd : ∀ b ∈ S, b ∉ Sy := fun b hb hm => by have h1 := (hS01 b hb).2; have h2 := (hSy0 b hm).2.1; omega
  obtain ⟨A1, c1, ecs, S', hv, how, hrow, rfl⟩ := hO
  injection hv with hv _
  injection hv with hA hn hc
  subst hA hc
  have hn' : n = xs.length := hn
  obtain ⟨i, z, hi, hz, hsize, hby, hzs⟩ := hE.info
  have hlen : news.length = m * T.size := by rw [hr.len, hm]
  obtain ⟨v', W', hrun, hown, hgrown, _, hat⟩ := run_append_own_at (P := P) W 0 t ty e i z T.size bytes hE.ht hi hz hsize hby hzs hE.pos (.slice A xs.length c) xs.length ecs how ad m c' news hlen hcell hr.one
    (by rw [← hn']; simpa [maxLen] using h63) (by rw [← hn']; exact hb) (Nat.zero_le _)
  subst hn'
  have hG : ∃ row, W.grownBy W' row ∧ ∀ k, row = some k → W0.heap.size ≤ k ∧ k < hi0 := ⟨_, hgrown, fun k hk => by
    cases A with
    | none => simp [Value.ownBlock] at hk
    | some a =>
      simp [Value.ownBlock] at hk
      exact hS01 k (by simp [blockOf, hk])⟩
  -- the elements' own blocks have not turned
  have hkeep : ∀ k, k < W.heap.size → (∀ b ∈ blockOf A, k ≠ b) → W'.heap[k]? = W.heap[k]? := fun k hk hne => hgrown.block k hk (by
    cases A with
    | none => simp [Value.ownBlock]
    | some a => simpa [Value.ownBlock, blockOf] using hne)
  rw [List.nodup_append] at hN
  obtain ⟨hN1, hN2, hN3⟩ := hN
  have hrow' : Rows T W' ecs xs S' := hrow.keep (fun k hk => hkeep k (hrow.lt k hk) (fun b hb => (hN3 b hb k hk).symm))
  have hr' : Rows T W' news ys Sy := hr.keep (fun k hk => hkeep k (hr.lt k hk) (fun b hb heq => hd b (List.mem_append_left _ hb) (heq ▸ hk)))
  have hshape : ∃ A' c'', v' = .slice A' (xs.length + m) c'' ∧ ∀ b ∈ blockOf A', b ∈ blockOf A ∨ b = W.heap.size := by
    rcases hown.2 with ⟨rfl, h0⟩ | ⟨g, cap, cur, rfl, _⟩
    · exact ⟨none, 0, by rw [h0], by simp [blockOf]⟩
    · refine ⟨_, cap, rfl, fun b hb => ?_⟩
      simp [blockOf] at hb
      subst hb
      rcases hat with h | h
      · left
        cases A with
        | none => simp [Value.ownBlock] at h
        | some a => simp [Value.ownBlock] at h; simp [blockOf, h]
      · right
        simpa [Value.ownBlock] using h
  obtain ⟨A', c'', rfl, hA'⟩ := hshape
  refine ⟨A', c'', W', hrun, hG, blockOf A' ++ (S' ++ Sy), ⟨A', c'', ecs ++ news, S' ++ Sy, by rw [List.length_append, hm], by rw [List.length_append, ← hm]; exact hown, hrow'.app hr', rfl⟩, ?_, ?_⟩
  · rw [List.nodup_append]
    refine ⟨by cases A' <;> simp [blockOf], List.nodup_append.2 ⟨hN2, hSy, fun a ha b hb heq => hd a (List.mem_append_right _ ha) (heq ▸ hb)⟩, fun a ha b hb heq => ?_⟩
    subst heq
    rcases hA' a ha with h | h
    · rcases List.mem_append.1 hb with hb | hb
      · exact hN3 a h a hb rfl
      · exact hd a (List.mem_append_left _ h) hb
    · subst h
      rcases List.mem_append.1 hb with hb | hb
      · exact absurd (hrow.lt _ hb) (Nat.lt_irrefl _)
      · exact absurd (hr.lt _ hb) (Nat.lt_irrefl _)
  · intro b hb
    rcases List.mem_append.1 hb with hb | hb
    · rcases hA' b hb with h | h
      · exact .inl (hS01 b (List.mem_append_left _ h))
      · rw [h]; exact .inr hm0
    · rcases List.mem_append.1 hb with hb | hb
      · exact .inl (hS01 b (List.mem_append_right _ hb))
      · exact .inr (hSy0 b hb).2.2
/-- .. nothing to append -/
theorem run_append_fresh_nil (hE : Elem P t e T bytes) {W0 W : World} {A : Option Addr} {n c : Nat} {xs : List α} (h : Fresh (T.sl e) W0 W [.slice A n c] xs) (c' : Nat) :
    (Builtin.append_ #[t, t] ty #[.slice A n c, .slice none 0 c']).run P W = .ok (.slice A n c) W := by
  obtain ⟨S, hO, hN, hS0⟩ := h
  obtain ⟨A1, c1, ecs, S', hv, how, hrow, rfl⟩ := hO
  injection hv with hv _
  injection hv with hA hn hc
  subst hA hc hn
  obtain ⟨i, z, hi, hz, hsize, hby, hzs⟩ := hE.info
  rcases how.2 with ⟨hv, h0⟩ | ⟨g, cap, cur, hv, _, _, hnc, _⟩
  · rw [hv]
    simp [Builtin.append_, run_underlying hE.ht, sizeOf, typeInfo, hi, Builtin.lenOf, Builtin.firstCells]
  · rw [hv]
    simp [Builtin.append_, run_underlying hE.ht, sizeOf, typeInfo, hi, Builtin.lenOf, Builtin.firstCells, hnc, storeCells]
/-- a flat list that is read goes behind an owned list -/
theorem run_append_flat (hE : Elem P t e T bytes) (hf : Flat T) {W0 W : World} {hi0 m0 : Nat} (hm0 : m0 ≤ W.heap.size) {A : Option Addr} {n c : Nat} {xs : List α} (h : Fre (T.sl e) W0 hi0 W [.slice A n c] xs)
    {B : Nat} {e' : TypeId} {A2 : Option Addr} {m c2 : Nat} {ys : List α} (hy : (T.sl e').R W B [.slice A2 m c2] ys)
    {L : Nat} (hL : L = n + m) (hb : L * bytes ≤ 140737488355328) (h63 : L ≤ 9223372036854775807) :
    ∃ A' c'' W', (Builtin.append_ #[t, t] ty #[.slice A n c, .slice A2 m c2]).run P W = .ok (.slice A' L c'') W' ∧ (∃ row, W.grownBy W' row ∧ ∀ k, row = some k → W0.heap.size ≤ k ∧ k < hi0) ∧ Fr2 (T.sl e) W0 hi0 m0 W' [.slice A' L c''] (xs ++ ys) := by
  obtain ⟨A3, c3, hv, h1, h2, h3, h4⟩ := hy
  injection hv with hv _
  injection hv with hA hn hc
  subst hA hn hc
  rcases Nat.eq_zero_or_pos ys.length with h0 | h0
  · have hys : ys = [] := List.eq_nil_of_length_eq_zero h0
    subst hys
    subst hL
    cases A2 with
    | none => exact ⟨A, c, W, run_append_fresh_nil hE h.fresh _, ⟨none, World.grownBy.refl W none, fun k hk => by simp at hk⟩, by
        obtain ⟨S, h1, h2, h3⟩ := h
        exact ⟨S, by simpa using h1, h2, fun b hb => .inl (h3 b hb)⟩⟩
    | some ad =>
      exact run_append_fresh hE h (ad := ad) (m := 0) (news := []) (ys := []) (Sy := []) ⟨rfl, rfl⟩ rfl (fun j u hu => by simp at hu) (by simp) hm0 (by simp) rfl hb h63
  · obtain ⟨g, off, rfl, hgB, h5⟩ := h4 h0
    obtain ⟨cs, hr, hl, hc⟩ := rows_of_flat (w' := W) hf (g := g) (off := off) ys 0 (fun i x hx => by
      obtain ⟨ec, hR, hcc⟩ := h5 i x hx
      exact ⟨ec, hR, fun j u hu => by rw [Nat.zero_add]; exact hcc j u hu⟩)
    exact run_append_fresh hE h (ad := ⟨g, off, none⟩) hr rfl (fun j u hu => by rw [Addr.add_lit]; simpa using hc j u hu) (by simp) hm0 (by simp) hL hb h63
end
section
variable {P : Program} {t : TypeId} {bytes : Nat} {ops : Array Oper} {rest : List Oper} {o : Oper} {a : Act} {Q : Exit → Act → World → Prop} {K : Act → World → Prop}
theorem wp_of_run_append {A : Option Addr} {n c : Nat} {v2 v' : Value} {W W' : World} (s x : Operand) (ho : o.op = .call { callee := .builtin .append, args := #[s, x], argTypes := #[t, t] }) (hs : a.eval s = .slice A n c) (hx : a.eval x = v2)
    (hrun : (Builtin.append_ #[t, t] o.type #[.slice A n c, v2]).run P W = .ok v' W') (h : K (a.put o.dst v') W') : o.wp P a W K Q := by
  unfold Oper.wp execOp
  simp only [ho, resolve, invoke, builtin, Sem.run_bind, Sem.run_pure, Result.andThen_ok, List.map_toArray, List.map_cons, List.map_nil, hs, hx, hrun]
  exact h
/-- 'append(own, read...)', flat elements, in the walk -/
theorem wpList_append_flat (hgd : o.guard = none) (s x : Operand) (hE : Elem P t e T bytes) (hf : Flat T) {W0 W : World} {A : Option Addr} {n c : Nat} {xs : List α} (h : Fresh (T.sl e) W0 W [.slice A n c] xs) (hg : Gro W0 W)
    {B : Nat} {e' : TypeId} {A2 : Option Addr} {m c2 : Nat} {ys : List α} (hy : (T.sl e').R W B [.slice A2 m c2] ys)
    (ho : o.op = .call { callee := .builtin .append, args := #[s, x], argTypes := #[t, t] }) (hs : a.eval s = .slice A n c) (hx : a.eval x = .slice A2 m c2)
    {L : Nat} (hL : L = n + m) (hb : L * bytes ≤ 140737488355328) (h63 : L ≤ 9223372036854775807)
    (hK : ∀ A' c'' os d, Fresh (T.sl e) W0 (gro W0 os d) [.slice A' L c''] (xs ++ ys) → wpList P ops Q rest (a.put o.dst (.slice A' L c'')) (gro W0 os d)) : wpList P ops Q (o :: rest) a W :=
  wpList_plain hgd fun K hKK => by
    obtain ⟨A', c'', W', hrun, ⟨row, hgr, hrow⟩, hF⟩ := run_append_flat (P := P) (ty := o.type) hE hf hg.size h.fre hy hL hb h63
    obtain ⟨os, d, rfl⟩ := hg.grown hgr (fun k hk => (hrow k hk).1)
    exact wp_of_run_append s x ho hs hx hrun (hKK _ _ (hK A' c'' os d (hF.fresh (Nat.le_refl _))))
end
section
variable {P : Program} {t : TypeId} {bytes : Nat} {ops : Array Oper} {rest : List Oper} {o : Oper} {a : Act} {Q : Exit → Act → World → Prop}
theorem Fr2.up {α : Type} {T : Ty α} {w w1 w2 : World} {hi n : Nat} {cs : List Value} {x : α} (h : Fr2 T w hi n w1 cs x) (hg : Gro w1 w2) : Fr2 T w hi n w2 cs x := by
  obtain ⟨S, h1, h2, h3⟩ := h
  exact ⟨S, T.groO h1 hg, h2, h3⟩
theorem Fr2.read {α : Type} {T : Ty α} {w w1 : World} {hi n : Nat} {cs : List Value} {x : α} (h : Fr2 T w hi n w1 cs x) : T.R w1 w1.heap.size cs x := by
  obtain ⟨S, h1, _, _⟩ := h
  exact T.read h1
end
end
end Go.Proofs.YtgodpjnbhmahaaaGreat
namespace Go.Proofs.YtgodpjnbhmahaaaGreat
open Go.RowKit
theorem eqIntS_l {xs ys : List Int} {w : World} {B B' : Nat} {v u : Value} (hx : (intT.sl 3).R w B [v] xs) (hy : (intT.sl 3).R w B' [u] ys) :
    Calls Tryz.prog 157 #[v, u] w fun e w' => e = .returned (.bool (decide (xs = ys))) ∧ Gro w w' := by
  obtain ⟨A, c, rfl, h1, h2⟩ := sl_at hx
  obtain ⟨A', c', rfl, k1, k2⟩ := sl_at hy
  by_cases hl : xs.length = ys.length
  · have hne : ((xs.length : Int) != (ys.length : Int)) = false := by simp [hl]
    have HL := Lib.hid hl
    clear hl
    go_enter Tryz.func157, Tryz.ntmps157
    go_wp2_with (fail)
    go_loopw [5] (fun i wr => ∃ k n : Nat, k ≤ xs.length ∧ i = .int .i64 k ∧ wr = w.drewN n ∧ xs.take k = ys.take k) (fun i _ => xs.length - (intOf i).toNat)
    case atStart => exact ⟨0, 0, Nat.zero_le _, rfl, rfl, by simp⟩
    case round =>
      obtain ⟨k, n, hk, rfl, rfl, htk⟩ := hrel
      have HT := Lib.hid htk
      clear htk
      by_cases hlt : k < xs.length
      · have hlt2 : k < ys.length := by rw [← HL.out]; exact hlt
        obtain ⟨g, off, x, rfl, hxk, hcx, bx1, bx2⟩ := ints_at hx hlt
        obtain ⟨g', off', y, rfl, hyk, hcy, by1, by2⟩ := ints_at hy hlt2
        have HX := Lib.hid hxk
        have HY := Lib.hid hyk
        clear hxk hyk hx hy
        by_cases hxy : x = y
        · subst hxy
          go_wp2_with (fail)
          go_quiet (fail)
          go_wp2
          go_roundw
          case rel => exact ⟨k + 1, _, by omega, by go_num, rfl, by rw [take_snoc HX.out, take_snoc HY.out, HT.out]⟩
          case measure => simp [intOf]; omega
        · have hb : (x != y) = true := by simp [hxy]
          go_wp2_with (fail)
          go_quiet (fail)
          go_wp2
          go_ret
          refine ⟨ret_bool ?_, ?_⟩
          · symm
            simp only [decide_eq_false_iff_not]
            rintro rfl
            have := HX.out.symm.trans HY.out
            simp_all
          · exact gro_of_drewN _ _
      · go_wp2
        go_ret
        refine ⟨ret_bool ?_, ?_⟩
        · have : k = xs.length := by omega
          subst this
          have h1 := HT.out
          rw [HL.out] at h1
          simp only [List.take_length] at h1
          rw [← HL.out] at h1
          simp at h1
          simp [h1]
        · exact gro_of_drewN _ _
  · have hne : ((xs.length : Int) != (ys.length : Int)) = true := by simp; omega
    go_enter Tryz.func157, Tryz.ntmps157
    go_wp2
    go_ret
    exact ⟨ret_bool (by symm; simp only [decide_eq_false_iff_not]; rintro rfl; exact hl rfl), Gro.refl _⟩
theorem run_byte_str (W : World) (x : Int) : (convert 22 9 (.slice (some ⟨W.heap.size, 0, none⟩) 1 1)).run Tryz.prog (W.alloc (.cells #[.int .u8 x] 5)) = .ok (.string ⟨#[UInt8.ofNat x.toNat]⟩) (W.alloc (.cells #[.int .u8 x] 5)) := by
  have h := run_convert_bytes_arg (P := Tryz.prog) (W.alloc (.cells #[.int .u8 x] 5)) 22 5 Tryz.underlying22 Tryz.underlying5 W.heap.size 0 1 1 [x] rfl (by
    intro i hi
    have : i = 0 := by omega
    subst this
    rw [World.cell?_alloc_at _ _ _ _ rfl]
    rfl) 9 Tryz.underlying9
  rw [h]
  rfl
def tdig : Nat → Nat → List UInt8 → List UInt8
  | 0, _, acc => acc
  | f + 1, n, acc => if n = 0 then acc else tdig f (n / 10) ((48 + UInt8.ofNat (n % 10)) :: acc)
theorem tdig_zero (f : Nat) (acc : List UInt8) : tdig f 0 acc = acc := by cases f <;> simp [tdig]
theorem tdig_pos {f m : Nat} (acc : List UInt8) (h : 0 < m) (hf : m ≤ f) : tdig f m acc = tdig (f - 1) (m / 10) ((48 + UInt8.ofNat (m % 10)) :: acc) := by
  obtain ⟨f', rfl⟩ : ∃ f', f = f' + 1 := ⟨f - 1, by omega⟩
  rw [tdig, if_neg (by omega)]
  rfl
theorem bytes_app (a b : List UInt8) : (⟨a.toArray⟩ : ByteArray) ++ ⟨b.toArray⟩ = ⟨(a ++ b).toArray⟩ := by
  apply toList_inj'.1
  rw [ByteArray.toList_eq, ByteArray.toList_eq]
  simp
def markTx (k : Int) : ByteArray := ⟨(109 :: tdig k.toNat k.toNat []).toArray⟩
theorem ret_str {a b : ByteArray} (h : a = b) : Ending.returned (.string a) = .returned (.string b) := by rw [h]
theorem val_str {a b : ByteArray} (h : a = b) : Value.string a = .string b := by rw [h]
theorem markText_l (k : Int) (h0 : 0 < k) (h1 : k ≤ 1099511627776) (w : World) : Calls Tryz.prog 105 #[.int .i64 k] w fun e w' => e = .returned (.string (markTx k)) ∧ Gro w w' := by
  obtain ⟨n, rfl⟩ := Int.eq_ofNat_of_zero_le (Int.le_of_lt h0)
  have kc := run_byte_str
  go_enter Tryz.func105, Tryz.ntmps105
  go_wp2_with (fail)
  go_loopw [0, 3] (fun a b wr => ∃ (m f : Nat) (acc : List UInt8), m + acc.length ≤ n ∧ m ≤ f ∧ a = .int .i64 m ∧ b = .string ⟨acc.toArray⟩ ∧ tdig f m acc = tdig n n [] ∧ Gro w wr) (fun a _ _ => (intOf a).toNat)
  case atStart => exact ⟨n, n, [], by simp, Nat.le_refl _, rfl, rfl, rfl, Gro.refl _⟩
  case round =>
    obtain ⟨m, f, acc, hm, hf, rfl, rfl, ht, hg⟩ := hrel
    have HT := Lib.hid ht
    clear ht
    by_cases h : 0 < m
    · go_wp2
      go_roundw
      case rel => exact ⟨m / 10, f - 1, (48 + UInt8.ofNat (m % 10)) :: acc, by simp; omega, by omega, by go_num, val_str (bytes_app [_] acc), by rw [← HT.out, tdig_pos acc h hf], hg.alloc _⟩
      case measure => simp [intOf]; omega
    · have h' : m = 0 := by omega
      subst h'
      go_wp2
      go_ret
      exact ⟨ret_str (by rw [markTx, Int.toNat_natCast, ← HT.out, tdig_zero]; exact bytes_app [_] acc), hg⟩
/-! ### marks -/
def mkInts (xs : List Int) (k : Int) : List Int := mkL (fun _ k => k) (fun _ => 1) xs k
theorem mkInts_length (xs : List Int) (k : Int) : (mkInts xs k).length = xs.length := mkL_length _ _
theorem cnt_one {α : Type} (xs : List α) : cntL (fun _ => 1) xs = xs.length := by
  induction xs with
  | nil => rfl
  | cons x xs ih => rw [cntL_cons, ih, List.length_cons]; omega
theorem cnt_one_take {α : Type} {xs : List α} {i : Nat} (h : i ≤ xs.length) : cntL (fun _ => 1) (xs.take i) = i := by
  rw [cnt_one, List.length_take]; omega
theorem szLe {α : Type} (f : α → Nat) (xs : List α) (j : Nat) : ((xs.take j).map f).sum ≤ (xs.map f).sum := cntL_take_le (cnt := f) xs j
theorem szSnoc {α : Type} (f : α → Nat) {xs : List α} {j : Nat} {x : α} (h : xs[j]? = some x) : ((xs.take (j + 1)).map f).sum = ((xs.take j).map f).sum + f x := cntL_snoc (cnt := f) h
theorem szAll {α : Type} (f : α → Nat) {xs : List α} {j : Nat} (h : j = xs.length) : ((xs.take j).map f).sum = (xs.map f).sum := by rw [h, List.take_length]
def szRes (left : Int) (n : Nat) : Int := if (n : Int) ≤ left then left - n else -1
def szL {α : Type} (f : α → Nat) (xs : List α) : Nat := xs.length + (xs.map f).sum
theorem szL_len {α : Type} (f : α → Nat) (xs : List α) : xs.length ≤ szL f xs := Nat.le_add_right _ _
theorem szL_elem {α : Type} (f : α → Nat) {xs : List α} {j : Nat} {x : α} (h : xs[j]? = some x) : f x ≤ szL f xs := by
  have h1 := szSnoc f h
  have h2 := szLe f xs (j + 1)
  unfold szL
  omega
theorem cntL_const {α : Type} (N : Nat) (xs : List α) : cntL (fun _ => N) xs = xs.length * N := by
  induction xs with
  | nil => simp [cntL]
  | cons x xs ih => rw [cntL_cons, ih, List.length_cons, Nat.add_mul, Nat.one_mul, Nat.add_comm]
theorem cntL_const_take {α : Type} (N : Nat) {xs : List α} {i : Nat} (h : i ≤ xs.length) : cntL (fun _ => N) (xs.take i) = i * N := by
  rw [cntL_const, List.length_take, Nat.min_eq_left h]
theorem markTx_size (k : Int) (h0 : 0 < k) (h1 : k ≤ 1099511627776) : (markTx k).size ≤ 9223372036854775807 := by
  have key : ∀ (f m : Nat) (acc : List UInt8), (tdig f m acc).length ≤ m + acc.length := by
    intro f
    induction f with
    | zero => intro m acc; simp [tdig]
    | succ f ih =>
      intro m acc
      unfold tdig
      split
      · omega
      · have := ih (m / 10) ((48 + UInt8.ofNat (m % 10)) :: acc)
        simp only [List.length_cons] at this
        omega
  have := key k.toNat k.toNat []
  simp only [List.length_nil, Nat.add_zero] at this
  show (109 :: tdig k.toNat k.toNat []).toArray.size ≤ _
  simp only [List.size_toArray, List.length_cons]
  omega
theorem markIntS_l {xs : List Int} {w : World} {A : Option Addr} {n c : Nat} {k : Int} {S : List Nat} (hO : (intT.sl 3).O w [.slice A n c] xs S) (hS : S.Nodup) (h0 : 0 < k) (h1 : k + xs.length ≤ 1099511627776) :
    Calls Tryz.prog 159 #[.slice A n c, .int .i64 k] w fun e w' => e = .returned (.int .i64 (k + xs.length)) ∧ (intT.sl 3).O w' [.slice A n c] (mkInts xs k) S ∧ OnlyS S w w' := by
  obtain ⟨_, _, hx, h2, h3⟩ := sl_at (Ty.read _ hO)
  injection hx with hA hn hc
  subst hA hn hc
  clear h3
  go_enter Tryz.func159, Tryz.ntmps159
  go_wp2_with (fail)
  go_loopw [1, 5] (fun a i wr => ∃ (j : Nat), j ≤ xs.length ∧ a = .int .i64 (k + j) ∧ i = .int .i64 j ∧ (intT.sl 3).O wr [.slice A xs.length c] (mkTo (fun (_ : Int) k => k) (fun _ => 1) xs k j) S ∧ OnlyS S w wr) (fun _ i _ => xs.length - (intOf i).toNat)
  case atStart => exact ⟨0, Nat.zero_le _, by simp, rfl, by rw [mkTo_zero]; exact hO, OnlyS.refl _ _⟩
  case round =>
    obtain ⟨j, hj, rfl, rfl, ho, hs⟩ := hrel
    by_cases hlt : j < xs.length
    · have hxj : xs[j]? = some xs[j] := List.getElem?_eq_getElem hlt
      obtain ⟨g, ec, Sc, rfl, hgS, hgl, hgc, hSc, hnd, hO1, hfz, hcell, hset, _⟩ := own_elem ho hS (mkTo_get hxj k)
      generalize hxe : xs[j] = x at hxj hO1
      clear hxe
      obtain ⟨rfl, b1, b2, rfl⟩ := hO1
      have hc0 := hcell 0 _ rfl
      simp only [intT, Nat.mul_one, Nat.add_zero] at hc0
      have hf0 := hfz j
      have HX := Lib.hid hxj
      have HC := Lib.hid hcell
      have HS := Lib.hid hset
      clear hcell hset hfz hxj ho hO
      go_wp2
      go_roundw
      case rel =>
        have h := HS.out 0 (.int .i64 (k + j)) (k + j) (by simp [intT]) rfl ⟨rfl, by omega, by omega, rfl⟩
        simp only [intT, Nat.mul_one, Nat.add_zero] at h
        have e := mkTo_set (mk := fun (_ : Int) k => k) (cnt := fun _ => 1) HX.out k
        rw [cnt_one_take (by omega)] at e
        rw [e] at h
        exact ⟨j + 1, by omega, by go_num, by go_num, h.1, hs.trans h.2⟩
      case measure => simp [intOf]; omega
    · go_wp2
      have : j = xs.length := by omega
      subst this
      rw [mkTo_all] at ho
      go_ret
      exact ⟨rfl, ho, hs⟩
/-! ### sizes -/
theorem szIntS_l {xs : List Int} {w : World} {B : Nat} {v : Value} {left : Int} (hx : (intT.sl 3).R w B [v] xs) (h0 : 0 ≤ left) (h1 : left ≤ 1099511627776) :
    Calls Tryz.prog 150 #[v, .int .i64 left] w fun e w' => e = .returned (.int .i64 (szRes left xs.length)) ∧ Gro w w' := by
  obtain ⟨A, c, rfl, h2, h3⟩ := sl_at hx
  clear hx
  by_cases h : (xs.length : Int) ≤ left
  · have HR := Lib.hid (show szRes left xs.length = left - xs.length from if_pos h)
    go_enter Tryz.func150, Tryz.ntmps150
    go_wp2
    go_ret
    exact ⟨ret_int HR.out.symm, Gro.refl _⟩
  · have HR := Lib.hid (show szRes left xs.length = -1 from if_neg h)
    go_enter Tryz.func150, Tryz.ntmps150
    go_wp2
    go_ret
    exact ⟨ret_int HR.out.symm, Gro.refl _⟩
theorem toIntS_info : (Tryz.prog.info? 3).map (fun i => (i.zero, i.size, i.bytes)) = some (some (.int .i64 0), 1, 8) := by kernel_rfl
theorem toIntS_l {xs : List Int} {w : World} {B : Nat} {v : Value} (hx : (intT.sl 3).R w B [v] xs) (hn : xs.length ≤ 1099511627776) :
    Calls Tryz.prog 155 #[v] w (RetSl intT 3 xs w) := by
  obtain ⟨A, c, rfl, h2, h3⟩ := sl_at hx
  obtain ⟨i0, hi, hz0, hz1, hz2⟩ := info_parts toIntS_info
  have hmk := run_make_rowN (P := Tryz.prog) 26 3 i0 _ Tryz.underlying26 hi hz0 .i64 .i64 xs.length xs.length (Nat.le_refl _) (by rw [hz2]; omega) (by omega)
  rw [hz1, Nat.mul_one] at hmk
  clear hz0 hz1 hz2 hi
  go_enter Tryz.func155, Tryz.ntmps155
  go_wp2_with (fail)
  go_loopw [4] (fun i wr => ∃ (j : Nat) (cur : Array Value), j ≤ xs.length ∧ i = .int .i64 j ∧ Hid (wr = w.alloc (.cells cur 3)) ∧ Hid (cur.size = xs.length ∧ Rows intT w (cur.toList.take j) (xs.take j) [])) (fun i _ => xs.length - (intOf i).toNat)
  case atStart => exact ⟨0, _, Nat.zero_le _, rfl, rfl, madeCells_size _ _, by simp [Rows]⟩
  case round =>
    obtain ⟨j, cur, hj, rfl, hw, hcur⟩ := hrel
    have hw' := hw.out
    subst hw'
    clear hw hmk
    by_cases hlt : j < xs.length
    · obtain ⟨g, off, x, rfl, hxk, hcx, bx1, bx2⟩ := ints_at hx hlt
      have hgb := World.block_lt_of_cell? _ _ hcx
      simp only at hgb
      have hsz : j < cur.size := by have := hcur.out.1; omega
      have hget : cur[j]? = some cur[j] := Array.getElem?_eq_getElem hsz
      generalize cur[j] = old at hget
      have HX := Lib.hid hxk
      clear hxk hx
      go_wp2
      go_roundw
      case rel =>
        refine ⟨j + 1, _, by omega, by go_num, rfl, by simp [hcur.out.1], ?_⟩
        rw [take_snoc HX.out, Array.toList_setIfInBounds, take_snoc (x := Value.int .i64 x) (by rw [List.getElem?_set_self]; rw [Array.length_toList]; exact hsz), List.take_set_of_le (Nat.le_refl _)]
        exact Rows.snoc hcur.out.2 ⟨rfl, bx1, bx2, rfl⟩
      case measure => simp [intOf]; omega
    · have hje : j = xs.length := by omega
      subst hje
      go_wp2
      go_ret
      obtain ⟨hcs, hrow⟩ := hcur.out
      rw [List.take_length, List.take_of_length_le (by rw [Array.length_toList]; omega)] at hrow
      exact ⟨_, _, rfl, ⟨_, own_made (heap_alloc_new w _) (hrow.keep (fun k hk => by simp at hk)) (by omega), by simp, by simp⟩, (Gro.refl _).alloc _⟩
end Go.Proofs.YtgodpjnbhmahaaaGreat
namespace Go.Proofs.YtgodpjnbhmahaaaGreat
open Go.RowKit
def RetInline (x : DInline) (w : World) (r : Ending) (w' : World) : Prop := r = .returned (.agg #[.int .i64 x.Start, .int .i64 x.End, .int .i64 x.Level, .int .i64 x.Line, .string x.Name]) ∧ Fresh tInline w w' [.int .i64 x.Start, .int .i64 x.End, .int .i64 x.Level, .int .i64 x.Line, .string x.Name] x ∧ Gro w w'
theorem tInline_mkOd {w : World} {x : DInline} (h0 : I64 x.Start) (h1 : I64 x.End) (h2 : I64 x.Level) (h3 : I64 x.Line) (h4 : x.Name.size ≤ 9223372036854775807) : tInline.O w [.int .i64 x.Start, .int .i64 x.End, .int .i64 x.Level, .int .i64 x.Line, .string x.Name] x ([]) := by
  have h : tInline.O w [.int .i64 x.Start, .int .i64 x.End, .int .i64 x.Level, .int .i64 x.Line, .string x.Name] x ([] ++ ([] ++ ([] ++ ([] ++ [])))) := ⟨[.int .i64 x.Start], [.int .i64 x.End, .int .i64 x.Level, .int .i64 x.Line, .string x.Name], [], ([] ++ ([] ++ ([] ++ []))), rfl, rfl, ⟨rfl, h0.1, h0.2, rfl⟩, ⟨[.int .i64 x.End], [.int .i64 x.Level, .int .i64 x.Line, .string x.Name], [], ([] ++ ([] ++ [])), rfl, rfl, ⟨rfl, h1.1, h1.2, rfl⟩, ⟨[.int .i64 x.Level], [.int .i64 x.Line, .string x.Name], [], ([] ++ []), rfl, rfl, ⟨rfl, h2.1, h2.2, rfl⟩, ⟨[.int .i64 x.Line], [.string x.Name], [], [], rfl, rfl, ⟨rfl, h3.1, h3.2, rfl⟩, ⟨rfl, h4, rfl⟩⟩⟩⟩⟩
  simpa using h
theorem eq_DInline {x y : DInline} : x = y ↔ x.Start = y.Start ∧ x.End = y.End ∧ x.Level = y.Level ∧ x.Line = y.Line ∧ x.Name = y.Name := by
  cases x
  cases y
  simp
def szInline (x : DInline) : Nat := x.Name.size
set_option maxRecDepth 100000 in
theorem toInline_l {x : DInline} {w : World} (h0 : I64 x.Start) (h1 : I64 x.End) (h2 : I64 x.Level) (h3 : I64 x.Line) (h4 : x.Name.size ≤ 9223372036854775807) (hn : szInline x ≤ 1099511627776) : Calls Tryz.prog 348 #[.agg #[.int .i64 x.Start, .int .i64 x.End, .int .i64 x.Level, .int .i64 x.Line, .string x.Name]] w (RetInline x w) := by
  unfold szInline at hn
  go_enter Tryz.func348, Tryz.ntmps348
  go_wp2
  refine bodyPost_ret (v := .agg #[.int .i64 x.Start, .int .i64 x.End, .int .i64 x.Level, .int .i64 x.Line, .string x.Name]) (by simp [results, Tryz.results348, go_sem]) rfl ⟨rfl, ?_, gG⟩
  exact ⟨_, tInline_mkOd h0 h1 h2 h3 h4, List.nodup_nil, fun b hb => absurd hb (List.not_mem_nil)⟩
set_option maxRecDepth 100000 in
theorem szInline_l {x : DInline} {w : World} {left : Int} (h4 : x.Name.size ≤ 9223372036854775807) (h00 : 0 ≤ left) (h01 : left ≤ 1099511627776) : Calls Tryz.prog 344 #[.agg #[.int .i64 x.Start, .int .i64 x.End, .int .i64 x.Level, .int .i64 x.Line, .string x.Name], .int .i64 left] w fun e w' => e = .returned (.int .i64 (szRes left (szInline x))) ∧ Gro w w' := by
  obtain ⟨n0, hn0⟩ : ∃ n, x.Name.size = n := ⟨_, rfl⟩
  have HS := Lib.hid (show szInline x = n0 from by unfold szInline; rw [hn0])
  have HN0 := Lib.hid hn0
  clear hn0
  by_cases c0' : (n0 : Int) ≤ left
  · skip
    have hx0 : x.Name.size = n0 := HN0.out
    go_enter Tryz.func344, Tryz.ntmps344
    go_wp2
    go_ret
    exact ⟨ret_int (by rw [HS.out]; unfold szRes; rw [if_pos (by omega)] <;> omega), gG⟩
  · have hx0 : x.Name.size = n0 := HN0.out
    go_enter Tryz.func344, Tryz.ntmps344
    go_wp2
    go_ret
    exact ⟨ret_int (by rw [HS.out]; unfold szRes; rw [if_neg (by omega)]), gG⟩
set_option maxRecDepth 100000 in
theorem eqInline_l {x y : DInline} {w : World}  : Calls Tryz.prog 222 #[.agg #[.int .i64 x.Start, .int .i64 x.End, .int .i64 x.Level, .int .i64 x.Line, .string x.Name], .agg #[.int .i64 y.Start, .int .i64 y.End, .int .i64 y.Level, .int .i64 y.Line, .string y.Name]] w fun e w' => e = .returned (.bool (decide (x = y))) ∧ Gro w w' := by
  go_enter Tryz.func222, Tryz.ntmps222
  go_wp2
  all_goals
    go_ret
    refine ⟨ret_bool ?_, gG⟩
    simp_all [eq_DInline, toList_inj']
end Go.Proofs.YtgodpjnbhmahaaaGreat
namespace Go.Proofs.YtgodpjnbhmahaaaGreat
open Go.RowKit
theorem atInline {e : TypeId} {w : World} {B : Nat} {A : Option Addr} {n c : Nat} {xs : List DInline} (h : (tInline.sl e).R w B [.slice A n c] xs) {k : Nat} (hk : k < xs.length) :
    ∃ g off x , A = some ⟨g, off, none⟩ ∧ g < B ∧ xs[k]? = some x ∧ w.cell? ⟨g, off + k * 5, none⟩ = some (.int .i64 x.Start) ∧ w.cell? ⟨g, off + k * 5 + 1, none⟩ = some (.int .i64 x.End) ∧ w.cell? ⟨g, off + k * 5 + 2, none⟩ = some (.int .i64 x.Level) ∧ w.cell? ⟨g, off + k * 5 + 3, none⟩ = some (.int .i64 x.Line) ∧ w.cell? ⟨g, off + k * 5 + 4, none⟩ = some (.string x.Name) ∧ I64 x.Start ∧ I64 x.End ∧ I64 x.Level ∧ I64 x.Line ∧ x.Name.size ≤ 9223372036854775807 := by
  obtain ⟨g, off, x, ec, h1, hB, h2, h3, h4⟩ := elem_at h hk
  obtain ⟨rfl, hf⟩ := tInline_R h3
  exact ⟨g, off, x, h1, hB, h2, h4 0 _ rfl, h4 1 _ rfl, h4 2 _ rfl, h4 3 _ rfl, h4 4 _ rfl, hf⟩
def mkEInline (_ : DInline) (k : Int) : DInline := ⟨k, k + 1, k + 1 + 1, k + 1 + 1 + 1, markTx (k + 1 + 1 + 1 + 1)⟩
def mkInlineS (xs : List DInline) (k : Int) : List DInline := mkL mkEInline (fun _ => 5) xs k
def cntInlineS (xs : List DInline) : Nat := xs.length * 5
theorem mkInlineS_length (xs : List DInline) (k : Int) : (mkInlineS xs k).length = xs.length := mkL_length _ _
theorem toInlineS_info : (Tryz.prog.info? 260).map (fun i => (i.zero, i.size, i.bytes)) = some (some (.agg #[.int .i64 0, .int .i64 0, .int .i64 0, .int .i64 0, .string ⟨#[]⟩]), 5, 48) := by kernel_rfl
theorem flatInline : Flat tInline := flat_via _ (flat_prod flat_int (flat_prod flat_int (flat_prod flat_int (flat_prod flat_int flat_str))))
theorem elInline : Elem Tryz.prog 95 260 tInline 48 := by
  obtain ⟨i0, hi, hz0, hz1, hz2⟩ := info_parts toInlineS_info
  exact ⟨Tryz.underlying95, ⟨i0, _, hi, hz0, hz1, hz2, rfl⟩, by decide⟩
set_option maxRecDepth 100000 in
theorem szInlineS_l {xs : List DInline} {w : World} {v : Value} {left : Int} (hx : (tInline.sl 260).R w w.heap.size [v] xs) (h0 : 0 ≤ left) (h1 : left ≤ 1099511627776) :
    Calls Tryz.prog 293 #[v, .int .i64 left] w fun e w' => e = .returned (.int .i64 (szRes left (szL szInline xs))) ∧ Gro w w' := by
  obtain ⟨A, c, rfl, h2, h3⟩ := sl_at hx
  by_cases h : (xs.length : Int) ≤ left
  · go_enter Tryz.func293, Tryz.ntmps293
    go_wp2_with (fail)
    go_loopw [1, 5] (fun a i wr => ∃ (j s : Nat), j ≤ xs.length ∧ Hid (s = ((xs.take j).map szInline).sum) ∧ (xs.length : Int) + s ≤ left ∧ a = .int .i64 (left - xs.length - s) ∧ i = .int .i64 j ∧ Hid (Gro w wr)) (fun _ i _ => xs.length - (intOf i).toNat)
    case atStart => exact ⟨0, 0, Nat.zero_le _, rfl, by omega, by simp, rfl, Gro.refl _⟩
    case round =>
      obtain ⟨j, s, hj, hs, hle, rfl, rfl, hG⟩ := hrel
      obtain ⟨os, d, rfl⟩ := hG.out
      clear hG
      by_cases hlt : j < xs.length
      · obtain ⟨g, off, x, rfl, hgb, hxk, hx0, hx1, hx2, hx3, hx4, bx0, bx1, bx2, bx3, bx4⟩ := atInline hx hlt
        have HX := Lib.hid (szSnoc szInline hxk)
        have HM := Lib.hid (szLe szInline xs (j + 1))
        obtain ⟨n0, hn0⟩ : ∃ n, szInline x = n := ⟨_, rfl⟩
        have HN := Lib.hid hn0
        clear hxk hx hn0
        by_cases hsz : (xs.length : Int) + s + n0 ≤ left
        · have HR := Lib.hid (show szRes (left - xs.length - s) n0 = left - xs.length - s - n0 from if_pos (by omega))
          go_wp2_with (go_at_call 344; refine (szInline_l (x := x) bx4 (by omega) (by omega)).mono ?_; rw [HN.out, HR.out]; rintro e w1 ⟨rfl, os1, d1, rfl⟩)
          go_roundw
          case rel => exact ⟨j + 1, s + n0, by omega, Lib.hid (by rw [hs.out, HX.out, HN.out]), by omega, by go_num, by go_num, Lib.hid gG⟩
          case measure => simp [intOf]; omega
        · have HR := Lib.hid (show szRes (left - xs.length - s) n0 = -1 from if_neg (by omega))
          have HQ := Lib.hid (show szRes left (szL szInline xs) = -1 from if_neg (by have h1 := HX.out; have h2 := HM.out; have h3 := hs.out; have h4 := HN.out; unfold szL; omega))
          go_wp2_with (go_at_call 344; refine (szInline_l (x := x) bx4 (by omega) (by omega)).mono ?_; rw [HN.out, HR.out]; rintro e w1 ⟨rfl, os1, d1, rfl⟩)
          go_ret
          exact ⟨ret_int HQ.out.symm, gG⟩
      · go_wp2
        go_ret
        exact ⟨ret_int (by
          have h3 := hs.out
          rw [szAll szInline (show j = xs.length by omega)] at h3
          unfold szRes szL
          rw [if_pos (by omega)]
          omega), gG⟩
  · have HR := Lib.hid (show szRes left (szL szInline xs) = -1 from if_neg (by unfold szL; omega))
    go_enter Tryz.func293, Tryz.ntmps293
    go_wp2
    go_ret
    exact ⟨ret_int HR.out.symm, Gro.refl _⟩
set_option maxRecDepth 100000 in
theorem toInlineS_l {xs : List DInline} {w : World} {v : Value} (hx : (tInline.sl 260).R w w.heap.size [v] xs) (hn : szL szInline xs ≤ 1099511627776) :
    Calls Tryz.prog 297 #[v] w (RetSl tInline 260 xs w) := by
  obtain ⟨A, c, rfl, h2, h3⟩ := sl_at hx
  obtain ⟨i0, hi, hz0, hz1, hz2⟩ := info_parts toInlineS_info
  have hn1 : xs.length ≤ 1099511627776 := Nat.le_trans (szL_len _ _) hn
  have hmk := run_make_rowN (P := Tryz.prog) 95 260 i0 _ Tryz.underlying95 hi hz0 .i64 .i64 xs.length xs.length (Nat.le_refl _) (by rw [hz2]; omega) (by omega)
  rw [hz1] at hmk
  clear hz0 hz1 hz2 hi
  go_enter Tryz.func297, Tryz.ntmps297
  go_wp2_with (fail)
  go_loopw [4] (fun i wr => ∃ (j : Nat) (cur : Array Value) (os : Array Obj) (d : Nat) (S' : List Nat), j ≤ xs.length ∧ i = .int .i64 j ∧ Hid (wr = gro (w.alloc (.cells cur 260)) os d) ∧ Hid (Rows tInline (gro (w.alloc (.cells cur 260)) os d) (cur.toList.take (j * 5)) (xs.take j) S') ∧ Hid (S'.Nodup) ∧ Hid (∀ b ∈ S', w.heap.size + 1 ≤ b) ∧ Hid (cur.size = xs.length * 5)) (fun i _ => xs.length - (intOf i).toNat)
  case atStart => exact ⟨0, _, _, _, [], Nat.zero_le _, rfl, gro_refl, Lib.hid (by simp [Rows]), Lib.hid List.nodup_nil, Lib.hid (by simp), madeCells_size _ _⟩
  case round =>
    obtain ⟨j, cur, os, d, S', hj, rfl, hw, hr, hN, hL, hsz⟩ := hrel
    have hw' := hw.out
    subst hw'
    clear hw hmk
    by_cases hlt : j < xs.length
    · obtain ⟨g, off, x, rfl, hgb, hxk, hx0, hx1, hx2, hx3, hx4, bx0, bx1, bx2, bx3, bx4⟩ := atInline hx hlt
      have hjs : j * 5 + 4 < cur.size := by have := hsz.out; omega
      obtain ⟨o0, ho0⟩ : ∃ u, cur[j * 5]? = some u := ⟨_, Array.getElem?_eq_getElem (by omega)⟩
      obtain ⟨o1, ho1⟩ : ∃ u, (cur.setIfInBounds (j * 5) (.int .i64 x.Start))[j * 5 + 1]? = some u := ⟨_, Array.getElem?_eq_getElem (by simp only [Array.size_setIfInBounds]; omega)⟩
      obtain ⟨o2, ho2⟩ : ∃ u, ((cur.setIfInBounds (j * 5) (.int .i64 x.Start)).setIfInBounds (j * 5 + 1) (.int .i64 x.End))[j * 5 + 2]? = some u := ⟨_, Array.getElem?_eq_getElem (by simp only [Array.size_setIfInBounds]; omega)⟩
      obtain ⟨o3, ho3⟩ : ∃ u, (((cur.setIfInBounds (j * 5) (.int .i64 x.Start)).setIfInBounds (j * 5 + 1) (.int .i64 x.End)).setIfInBounds (j * 5 + 2) (.int .i64 x.Level))[j * 5 + 3]? = some u := ⟨_, Array.getElem?_eq_getElem (by simp only [Array.size_setIfInBounds]; omega)⟩
      obtain ⟨o4, ho4⟩ : ∃ u, ((((cur.setIfInBounds (j * 5) (.int .i64 x.Start)).setIfInBounds (j * 5 + 1) (.int .i64 x.End)).setIfInBounds (j * 5 + 2) (.int .i64 x.Level)).setIfInBounds (j * 5 + 3) (.int .i64 x.Line))[j * 5 + 4]? = some u := ⟨_, Array.getElem?_eq_getElem (by simp only [Array.size_setIfInBounds]; omega)⟩
      have HX := Lib.hid hxk
      have hszx : szInline x ≤ 1099511627776 := Nat.le_trans (szL_elem szInline hxk) hn
      clear hxk hx
      go_wp2_with (fail)
      refine (toInline_l (x := x) bx0 bx1 bx2 bx3 bx4 hszx).mono ?_
      rintro e w1 ⟨rfl, hF, os1, d1, rfl⟩
      go_wp2
      go_roundw
      case rel =>
        rw [gro_gro] at hF
        obtain ⟨S'', h1, h2, h3, h4⟩ := rows_put (T := tInline) hr.out hN.out hL.out hsz.out hlt HX.out hF (by rw [← gro_gro]; exact Gro.of _ _ _)
        exact ⟨j + 1, _, os ++ os1, d1, S'', by omega, by go_num, gro_gro _ _ _ _, h1, h2, h3, h4⟩
      case measure => simp [intOf]; omega
    · have hje : j = xs.length := by omega
      subst hje
      go_wp2
      go_ret
      exact rows_done hr.out hN.out hL.out hsz.out (Nat.le_refl _) (by omega)
set_option maxRecDepth 100000 in
theorem eqInlineS_l {xs ys : List DInline} {w : World} {v u : Value} (hx : (tInline.sl 260).R w w.heap.size [v] xs) (hy : (tInline.sl 260).R w w.heap.size [u] ys) :
    Calls Tryz.prog 134 #[v, u] w fun e w' => e = .returned (.bool (decide (xs = ys))) ∧ Gro w w' := by
  obtain ⟨A, c, rfl, h1, h2⟩ := sl_at hx
  obtain ⟨A', c', rfl, k1, k2⟩ := sl_at hy
  by_cases hl : xs.length = ys.length
  · have hne : ((xs.length : Int) != (ys.length : Int)) = false := by simp [hl]
    have HL := Lib.hid hl
    clear hl
    go_enter Tryz.func134, Tryz.ntmps134
    go_wp2_with (fail)
    go_loopw [5] (fun i wr => ∃ k : Nat, k ≤ xs.length ∧ i = .int .i64 k ∧ Hid (Gro w wr) ∧ Hid (xs.take k = ys.take k)) (fun i _ => xs.length - (intOf i).toNat)
    case atStart => exact ⟨0, Nat.zero_le _, rfl, Gro.refl _, Lib.hid (by simp)⟩
    case round =>
      obtain ⟨k, hk, rfl, hG, HT⟩ := hrel
      obtain ⟨os, d, rfl⟩ := hG.out
      clear hG
      by_cases hlt : k < xs.length
      · have hlt2 : k < ys.length := by rw [← HL.out]; exact hlt
        obtain ⟨g, off, x, rfl, hgb, hxk, hx0, hx1, hx2, hx3, hx4, bx0, bx1, bx2, bx3, bx4⟩ := atInline hx hlt
        obtain ⟨g', off', y, rfl, hgb', hyk, hy0, hy1, hy2, hy3, hy4, by0, by1, by2, by3, by4⟩ := atInline hy hlt2
        have HX := Lib.hid hxk
        have HY := Lib.hid hyk
        clear hxk hyk hx hy
        by_cases hxy : x = y
        · subst hxy
          go_wp2_with (fail)
          go_region_held3 (fun w' => w'.cell? ⟨g, off + k * 5, none⟩ = some (.int .i64 x.Start) ∧ w'.cell? ⟨g, off + k * 5 + 1, none⟩ = some (.int .i64 x.End) ∧ w'.cell? ⟨g, off + k * 5 + 2, none⟩ = some (.int .i64 x.Level) ∧ w'.cell? ⟨g, off + k * 5 + 3, none⟩ = some (.int .i64 x.Line) ∧ w'.cell? ⟨g, off + k * 5 + 4, none⟩ = some (.string x.Name) ∧ w'.cell? ⟨g', off' + k * 5, none⟩ = some (.int .i64 x.Start) ∧ w'.cell? ⟨g', off' + k * 5 + 1, none⟩ = some (.int .i64 x.End) ∧ w'.cell? ⟨g', off' + k * 5 + 2, none⟩ = some (.int .i64 x.Level) ∧ w'.cell? ⟨g', off' + k * 5 + 3, none⟩ = some (.int .i64 x.Line) ∧ w'.cell? ⟨g', off' + k * 5 + 4, none⟩ = some (.string x.Name)) ((repeat' apply And.intro) <;> (first | ((repeat (first | assumption | with_reducible refine gro_keeps ?_ _ _ | with_reducible refine alloc_keeps ?_ _ | with_reducible refine drew_keeps ?_)); done) | (simp [go_sem]; done))) (first
            | (go_at_call 222; refine (eqInline_l (x := x) (y := x)).mono ?_; rintro e w1 ⟨rfl, os1, d1, rfl⟩))
          go_wp2
          go_roundw
          case rel => exact ⟨k + 1, by omega, by go_num, Lib.hid gG, Lib.hid (by rw [take_snoc HX.out, take_snoc HY.out, HT.out])⟩
          case measure => simp [intOf]; omega
        · have HXY := Lib.hid (show decide (x = y) = false from by simp [hxy])
          go_wp2_with (fail)
          go_region_held3 (fun w' => w'.cell? ⟨g, off + k * 5, none⟩ = some (.int .i64 x.Start) ∧ w'.cell? ⟨g, off + k * 5 + 1, none⟩ = some (.int .i64 x.End) ∧ w'.cell? ⟨g, off + k * 5 + 2, none⟩ = some (.int .i64 x.Level) ∧ w'.cell? ⟨g, off + k * 5 + 3, none⟩ = some (.int .i64 x.Line) ∧ w'.cell? ⟨g, off + k * 5 + 4, none⟩ = some (.string x.Name) ∧ w'.cell? ⟨g', off' + k * 5, none⟩ = some (.int .i64 y.Start) ∧ w'.cell? ⟨g', off' + k * 5 + 1, none⟩ = some (.int .i64 y.End) ∧ w'.cell? ⟨g', off' + k * 5 + 2, none⟩ = some (.int .i64 y.Level) ∧ w'.cell? ⟨g', off' + k * 5 + 3, none⟩ = some (.int .i64 y.Line) ∧ w'.cell? ⟨g', off' + k * 5 + 4, none⟩ = some (.string y.Name)) ((repeat' apply And.intro) <;> (first | ((repeat (first | assumption | with_reducible refine gro_keeps ?_ _ _ | with_reducible refine alloc_keeps ?_ _ | with_reducible refine drew_keeps ?_)); done) | (simp [go_sem]; done))) (first
            | (go_at_call 222; refine (eqInline_l (x := x) (y := y)).mono ?_; rw [HXY.out]; rintro e w1 ⟨rfl, os1, d1, rfl⟩))
          go_wp2
          go_ret
          refine ⟨ret_bool ?_, gG⟩
          symm
          simp only [decide_eq_false_iff_not]
          rintro rfl
          exact hxy (Option.some.inj (HX.out.symm.trans HY.out))
      · go_wp2
        go_ret
        refine ⟨ret_bool ?_, gG⟩
        have : k = xs.length := by omega
        subst this
        have h1 := HT.out
        rw [HL.out] at h1
        simp only [List.take_length] at h1
        rw [← HL.out] at h1
        simp at h1
        simp [h1]
  · have hne : ((xs.length : Int) != (ys.length : Int)) = true := by simp; omega
    go_enter Tryz.func134, Tryz.ntmps134
    go_wp2
    go_ret
    exact ⟨ret_bool (by symm; simp only [decide_eq_false_iff_not]; rintro rfl; exact hl rfl), Gro.refl _⟩
set_option maxRecDepth 100000 in
set_option maxHeartbeats 2000000 in
theorem markInlineS_l {xs : List DInline} {w : World} {A : Option Addr} {n c : Nat} {k : Int} {S : List Nat} (hO : (tInline.sl 260).O w [.slice A n c] xs S) (hS : S.Nodup) (h0 : 0 < k) (h1 : k + cntInlineS xs ≤ 1099511627776) :
    Calls Tryz.prog 141 #[.slice A n c, .int .i64 k] w fun e w' => e = .returned (.int .i64 (k + cntInlineS xs)) ∧ (tInline.sl 260).O w' [.slice A n c] (mkInlineS xs k) S ∧ OnlyS S w w' := by
  obtain ⟨_, _, hx, h2, h3⟩ := sl_at (Ty.read _ hO)
  injection hx with hA hn hc
  subst hA hn hc
  clear h3
  unfold cntInlineS at h1 ⊢
  go_enter Tryz.func141, Tryz.ntmps141
  go_wp2_with (fail)
  go_loopw [1, 5] (fun a i wr => ∃ (j : Nat), j ≤ xs.length ∧ a = .int .i64 (k + j * 5) ∧ i = .int .i64 j ∧ Hid ((tInline.sl 260).O wr [.slice A xs.length c] (mkTo mkEInline (fun _ => 5) xs k j) S) ∧ Hid (OnlyS S w wr)) (fun _ i _ => xs.length - (intOf i).toNat)
  case atStart => exact ⟨0, Nat.zero_le _, by simp, rfl, Lib.hid (by rw [mkTo_zero]; exact hO), OnlyS.refl _ _⟩
  case round =>
    obtain ⟨j, hj, rfl, rfl, ho, hs⟩ := hrel
    by_cases hlt : j < xs.length
    · have hxj : xs[j]? = some xs[j] := List.getElem?_eq_getElem hlt
      obtain ⟨g, ec, Sc, rfl, hgS, hgl, hgc, hSc, hO1, hfz, hcell, hset⟩ := own_put ho.out hS (mkTo_get hxj k)
      generalize hxe : xs[j] = x at hxj hO1
      clear hxe
      obtain ⟨rfl, rfl, _, _, _, _, _⟩ := tInline_O hO1
      have hc0 := hcell 0 _ rfl
      have hc1 := hcell 1 _ rfl
      have hc2 := hcell 2 _ rfl
      have hc3 := hcell 3 _ rfl
      have hc4 := hcell 4 _ rfl
      simp only [Nat.add_zero, show tInline.size = 5 from rfl] at hc0 hc1 hc2 hc3 hc4
      have hf0 := hfz (j * 5)
      have hf1 := hfz (j * 5 + 1)
      have hf2 := hfz (j * 5 + 2)
      have hf3 := hfz (j * 5 + 3)
      have hf4 := hfz (j * 5 + 4)
      have HX := Lib.hid hxj
      have HS := Lib.hid hset
      clear hcell hset hfz hxj hO hO1
      go_wp2_with (first | (go_at_call 105; refine (markText_l _ (by omega) (by omega) _).mono ?_; rintro e w1 ⟨rfl, os, d, rfl⟩))
      go_roundw
      case rel =>
        have h := HS.out [.int .i64 (k + j * 5), .int .i64 (k + j * 5 + 1), .int .i64 (k + j * 5 + 1 + 1), .int .i64 (k + j * 5 + 1 + 1 + 1), .string (markTx (k + j * 5 + 1 + 1 + 1 + 1))] (mkEInline x (k + j * 5)) (tInline_mkOd (x := mkEInline x (k + j * 5)) (show I64 (k + j * 5) from ⟨by omega, by omega⟩) (show I64 (k + j * 5 + 1) from ⟨by omega, by omega⟩) (show I64 (k + j * 5 + 1 + 1) from ⟨by omega, by omega⟩) (show I64 (k + j * 5 + 1 + 1 + 1) from ⟨by omega, by omega⟩) (markTx_size _ (by omega) (by omega)))
        have e := mkTo_set (mk := mkEInline) (cnt := fun _ => 5) HX.out k
        rw [cntL_const_take 5 (by omega), Int.natCast_mul] at e
        rw [show mkEInline x (k + j * 5) = mkEInline x (k + (j : Int) * ((5 : Nat) : Int)) from rfl, e] at h
        exact ⟨j + 1, by omega, by go_num, by go_num, Lib.hid (Ty.groO _ h.1 (Gro.of _ _ _)), Lib.hid ((hs.out.trans h.2).trans ((Gro.of _ _ _).only _))⟩
      case measure => simp [intOf]; omega
    · go_wp2
      have : j = xs.length := by omega
      subst this
      have ho' := ho.out
      rw [mkTo_all] at ho'
      go_ret
      exact ⟨rfl, ho', hs.out⟩
end Go.Proofs.YtgodpjnbhmahaaaGreat
namespace Go.Proofs.YtgodpjnbhmahaaaGreat
open Go.RowKit
structure DFrame where
  Name : ByteArray
  Line : Int
  deriving DecidableEq
def tFrame : Ty DFrame := (strT.prod intT).via fun x => (x.Name, x.Line)
theorem tFrame_R {w : World} {B : Nat} {cs : List Value} {x : DFrame} (h : tFrame.R w B cs x) : cs = [.string x.Name, .int .i64 x.Line] ∧ x.Name.size ≤ 9223372036854775807 ∧ I64 x.Line := by
  obtain ⟨_, _, rfl, ⟨rfl, b1_Name⟩, ⟨rfl, b1_Line, b2_Line⟩⟩ := h
  exact ⟨rfl, b1_Name, ⟨b1_Line, b2_Line⟩⟩
theorem tFrame_mkR {w : World} {B : Nat} {x : DFrame}  (h0 : x.Name.size ≤ 9223372036854775807) (h1 : I64 x.Line) : tFrame.R w B [.string x.Name, .int .i64 x.Line] x := by
  exact ⟨[.string x.Name], [.int .i64 x.Line], rfl, ⟨rfl, h0⟩, ⟨rfl, h1.1, h1.2⟩⟩
theorem tFrame_O {w : World} {cs : List Value} {x : DFrame} {S : List Nat} (h : tFrame.O w cs x S) : cs = [.string x.Name, .int .i64 x.Line] ∧ S = [] ∧ x.Name.size ≤ 9223372036854775807 ∧ I64 x.Line := by
  obtain ⟨_, _, _, _, rfl, rfl, ⟨rfl, b1_Name, rfl⟩, ⟨rfl, b1_Line, b2_Line, rfl⟩⟩ := h
  exact ⟨rfl, rfl, b1_Name, ⟨b1_Line, b2_Line⟩⟩
end Go.Proofs.YtgodpjnbhmahaaaGreat
namespace Go.Proofs.YtgodpjnbhmahaaaGreat
open Go.RowKit
theorem tFrame_mkOd {w : World} {x : DFrame} (h0 : x.Name.size ≤ 9223372036854775807) (h1 : I64 x.Line) : tFrame.O w [.string x.Name, .int .i64 x.Line] x ([]) := by
  have h : tFrame.O w [.string x.Name, .int .i64 x.Line] x ([] ++ []) := ⟨[.string x.Name], [.int .i64 x.Line], [], [], rfl, rfl, ⟨rfl, h0, rfl⟩, ⟨rfl, h1.1, h1.2, rfl⟩⟩
  simpa using h
theorem eq_DFrame {x y : DFrame} : x = y ↔ x.Name = y.Name ∧ x.Line = y.Line := by
  cases x
  cases y
  simp
set_option maxRecDepth 100000 in
theorem eqFrame_l {x y : DFrame} {w : World}  : Calls Tryz.prog 100 #[.agg #[.string x.Name, .int .i64 x.Line], .agg #[.string y.Name, .int .i64 y.Line]] w fun e w' => e = .returned (.bool (decide (x = y))) ∧ Gro w w' := by
  go_enter Tryz.func100, Tryz.ntmps100
  go_wp2
  all_goals
    go_ret
    refine ⟨ret_bool ?_, gG⟩
    simp_all [eq_DFrame, toList_inj']
end Go.Proofs.YtgodpjnbhmahaaaGreat
namespace Go.Proofs.YtgodpjnbhmahaaaGreat
open Go.RowKit
theorem atFrame {e : TypeId} {w : World} {B : Nat} {A : Option Addr} {n c : Nat} {xs : List DFrame} (h : (tFrame.sl e).R w B [.slice A n c] xs) {k : Nat} (hk : k < xs.length) :
    ∃ g off x , A = some ⟨g, off, none⟩ ∧ g < B ∧ xs[k]? = some x ∧ w.cell? ⟨g, off + k * 2, none⟩ = some (.string x.Name) ∧ w.cell? ⟨g, off + k * 2 + 1, none⟩ = some (.int .i64 x.Line) ∧ x.Name.size ≤ 9223372036854775807 ∧ I64 x.Line := by
  obtain ⟨g, off, x, ec, h1, hB, h2, h3, h4⟩ := elem_at h hk
  obtain ⟨rfl, hf⟩ := tFrame_R h3
  exact ⟨g, off, x, h1, hB, h2, h4 0 _ rfl, h4 1 _ rfl, hf⟩
def mkEFrame (_ : DFrame) (k : Int) : DFrame := ⟨markTx k, k + 1⟩
def mkFrameS (xs : List DFrame) (k : Int) : List DFrame := mkL mkEFrame (fun _ => 2) xs k
def cntFrameS (xs : List DFrame) : Nat := xs.length * 2
theorem toFrameS_info : (Tryz.prog.info? 59).map (fun i => (i.zero, i.size, i.bytes)) = some (some (.agg #[.string ⟨#[]⟩, .int .i64 0]), 2, 24) := by kernel_rfl
theorem flatFrame : Flat tFrame := flat_via _ (flat_prod flat_str flat_int)
theorem elFrame : Elem Tryz.prog 54 59 tFrame 24 := by
  obtain ⟨i0, hi, hz0, hz1, hz2⟩ := info_parts toFrameS_info
  exact ⟨Tryz.underlying54, ⟨i0, _, hi, hz0, hz1, hz2, rfl⟩, by decide⟩
set_option maxRecDepth 100000 in
theorem eqFrameS_l {xs ys : List DFrame} {w : World} {v u : Value} (hx : (tFrame.sl 59).R w w.heap.size [v] xs) (hy : (tFrame.sl 59).R w w.heap.size [u] ys) :
    Calls Tryz.prog 34 #[v, u] w fun e w' => e = .returned (.bool (decide (xs = ys))) ∧ Gro w w' := by
  obtain ⟨A, c, rfl, h1, h2⟩ := sl_at hx
  obtain ⟨A', c', rfl, k1, k2⟩ := sl_at hy
  by_cases hl : xs.length = ys.length
  · have hne : ((xs.length : Int) != (ys.length : Int)) = false := by simp [hl]
    have HL := Lib.hid hl
    clear hl
    go_enter Tryz.func34, Tryz.ntmps34
    go_wp2_with (fail)
    go_loopw [5] (fun i wr => ∃ k : Nat, k ≤ xs.length ∧ i = .int .i64 k ∧ Hid (Gro w wr) ∧ Hid (xs.take k = ys.take k)) (fun i _ => xs.length - (intOf i).toNat)
    case atStart => exact ⟨0, Nat.zero_le _, rfl, Gro.refl _, Lib.hid (by simp)⟩
    case round =>
      obtain ⟨k, hk, rfl, hG, HT⟩ := hrel
      obtain ⟨os, d, rfl⟩ := hG.out
      clear hG
      by_cases hlt : k < xs.length
      · have hlt2 : k < ys.length := by rw [← HL.out]; exact hlt
        obtain ⟨g, off, x, rfl, hgb, hxk, hx0, hx1, bx0, bx1⟩ := atFrame hx hlt
        obtain ⟨g', off', y, rfl, hgb', hyk, hy0, hy1, by0, by1⟩ := atFrame hy hlt2
        have HX := Lib.hid hxk
        have HY := Lib.hid hyk
        clear hxk hyk hx hy
        by_cases hxy : x = y
        · subst hxy
          go_wp2_with (fail)
          go_region_held3 (fun w' => w'.cell? ⟨g, off + k * 2, none⟩ = some (.string x.Name) ∧ w'.cell? ⟨g, off + k * 2 + 1, none⟩ = some (.int .i64 x.Line) ∧ w'.cell? ⟨g', off' + k * 2, none⟩ = some (.string x.Name) ∧ w'.cell? ⟨g', off' + k * 2 + 1, none⟩ = some (.int .i64 x.Line)) ((repeat' apply And.intro) <;> (first | ((repeat (first | assumption | with_reducible refine gro_keeps ?_ _ _ | with_reducible refine alloc_keeps ?_ _ | with_reducible refine drew_keeps ?_)); done) | (simp [go_sem]; done))) (first
            | (go_at_call 100; refine (eqFrame_l (x := x) (y := x)).mono ?_; rintro e w1 ⟨rfl, os1, d1, rfl⟩))
          go_wp2
          go_roundw
          case rel => exact ⟨k + 1, by omega, by go_num, Lib.hid gG, Lib.hid (by rw [take_snoc HX.out, take_snoc HY.out, HT.out])⟩
          case measure => simp [intOf]; omega
        · have HXY := Lib.hid (show decide (x = y) = false from by simp [hxy])
          go_wp2_with (fail)
          go_region_held3 (fun w' => w'.cell? ⟨g, off + k * 2, none⟩ = some (.string x.Name) ∧ w'.cell? ⟨g, off + k * 2 + 1, none⟩ = some (.int .i64 x.Line) ∧ w'.cell? ⟨g', off' + k * 2, none⟩ = some (.string y.Name) ∧ w'.cell? ⟨g', off' + k * 2 + 1, none⟩ = some (.int .i64 y.Line)) ((repeat' apply And.intro) <;> (first | ((repeat (first | assumption | with_reducible refine gro_keeps ?_ _ _ | with_reducible refine alloc_keeps ?_ _ | with_reducible refine drew_keeps ?_)); done) | (simp [go_sem]; done))) (first
            | (go_at_call 100; refine (eqFrame_l (x := x) (y := y)).mono ?_; rw [HXY.out]; rintro e w1 ⟨rfl, os1, d1, rfl⟩))
          go_wp2
          go_ret
          refine ⟨ret_bool ?_, gG⟩
          symm
          simp only [decide_eq_false_iff_not]
          rintro rfl
          exact hxy (Option.some.inj (HX.out.symm.trans HY.out))
      · go_wp2
        go_ret
        refine ⟨ret_bool ?_, gG⟩
        have : k = xs.length := by omega
        subst this
        have h1 := HT.out
        rw [HL.out] at h1
        simp only [List.take_length] at h1
        rw [← HL.out] at h1
        simp at h1
        simp [h1]
  · have hne : ((xs.length : Int) != (ys.length : Int)) = true := by simp; omega
    go_enter Tryz.func34, Tryz.ntmps34
    go_wp2
    go_ret
    exact ⟨ret_bool (by symm; simp only [decide_eq_false_iff_not]; rintro rfl; exact hl rfl), Gro.refl _⟩
set_option maxRecDepth 100000 in
set_option maxHeartbeats 2000000 in
theorem markFrameS_l {xs : List DFrame} {w : World} {A : Option Addr} {n c : Nat} {k : Int} {S : List Nat} (hO : (tFrame.sl 59).O w [.slice A n c] xs S) (hS : S.Nodup) (h0 : 0 < k) (h1 : k + cntFrameS xs ≤ 1099511627776) :
    Calls Tryz.prog 39 #[.slice A n c, .int .i64 k] w fun e w' => e = .returned (.int .i64 (k + cntFrameS xs)) ∧ (tFrame.sl 59).O w' [.slice A n c] (mkFrameS xs k) S ∧ OnlyS S w w' := by
  obtain ⟨_, _, hx, h2, h3⟩ := sl_at (Ty.read _ hO)
  injection hx with hA hn hc
  subst hA hn hc
  clear h3
  unfold cntFrameS at h1 ⊢
  go_enter Tryz.func39, Tryz.ntmps39
  go_wp2_with (fail)
  go_loopw [1, 5] (fun a i wr => ∃ (j : Nat), j ≤ xs.length ∧ a = .int .i64 (k + j * 2) ∧ i = .int .i64 j ∧ Hid ((tFrame.sl 59).O wr [.slice A xs.length c] (mkTo mkEFrame (fun _ => 2) xs k j) S) ∧ Hid (OnlyS S w wr)) (fun _ i _ => xs.length - (intOf i).toNat)
  case atStart => exact ⟨0, Nat.zero_le _, by simp, rfl, Lib.hid (by rw [mkTo_zero]; exact hO), OnlyS.refl _ _⟩
  case round =>
    obtain ⟨j, hj, rfl, rfl, ho, hs⟩ := hrel
    by_cases hlt : j < xs.length
    · have hxj : xs[j]? = some xs[j] := List.getElem?_eq_getElem hlt
      obtain ⟨g, ec, Sc, rfl, hgS, hgl, hgc, hSc, hO1, hfz, hcell, hset⟩ := own_put ho.out hS (mkTo_get hxj k)
      generalize hxe : xs[j] = x at hxj hO1
      clear hxe
      obtain ⟨rfl, rfl, _, _⟩ := tFrame_O hO1
      have hc0 := hcell 0 _ rfl
      have hc1 := hcell 1 _ rfl
      simp only [Nat.add_zero, show tFrame.size = 2 from rfl] at hc0 hc1
      have hf0 := hfz (j * 2)
      have hf1 := hfz (j * 2 + 1)
      have HX := Lib.hid hxj
      have HS := Lib.hid hset
      clear hcell hset hfz hxj hO hO1
      go_wp2_with (first | (go_at_call 105; refine (markText_l _ (by omega) (by omega) _).mono ?_; rintro e w1 ⟨rfl, os, d, rfl⟩))
      go_roundw
      case rel =>
        have h := HS.out [.string (markTx (k + j * 2)), .int .i64 (k + j * 2 + 1)] (mkEFrame x (k + j * 2)) (tFrame_mkOd (x := mkEFrame x (k + j * 2)) (markTx_size _ (by omega) (by omega)) (show I64 (k + j * 2 + 1) from ⟨by omega, by omega⟩))
        have e := mkTo_set (mk := mkEFrame) (cnt := fun _ => 2) HX.out k
        rw [cntL_const_take 2 (by omega), Int.natCast_mul] at e
        rw [show mkEFrame x (k + j * 2) = mkEFrame x (k + (j : Int) * ((2 : Nat) : Int)) from rfl, e] at h
        exact ⟨j + 1, by omega, by go_num, by go_num, Lib.hid (Ty.groO _ h.1 (Gro.of _ _ _)), Lib.hid ((hs.out.trans h.2).trans ((Gro.of _ _ _).only _))⟩
      case measure => simp [intOf]; omega
    · go_wp2
      have : j = xs.length := by omega
      subst this
      have ho' := ho.out
      rw [mkTo_all] at ho'
      go_ret
      exact ⟨rfl, ho', hs.out⟩
set_option maxRecDepth 100000 in
set_option maxHeartbeats 2000000 in
theorem heldFrameS_l {xs : List DFrame} {w : World} {v : Value} {k : Int} (hx : (tFrame.sl 59).R w w.heap.size [v] (mkFrameS xs k)) (h0 : 0 < k) (h1 : k + cntFrameS xs ≤ 1099511627776) :
    Calls Tryz.prog 40 #[v, .int .i64 k] w fun e w' => e = .returned (.int .i64 (k + cntFrameS xs)) ∧ Gro w w' := by
  obtain ⟨A, c, rfl, h2, h3⟩ := sl_at hx
  have hlen : (mkFrameS xs k).length = xs.length := mkL_length _ _
  rw [hlen] at h2 hx ⊢
  have HL := Lib.hid hlen
  clear hlen
  unfold cntFrameS at h1 ⊢
  go_enter Tryz.func40, Tryz.ntmps40
  go_wp2_with (fail)
  go_loopw [1, 5] (fun a i wr => ∃ (j : Nat), j ≤ xs.length ∧ a = .int .i64 (k + j * 2) ∧ i = .int .i64 j ∧ Hid (Gro w wr)) (fun _ i _ => xs.length - (intOf i).toNat)
  case atStart => exact ⟨0, Nat.zero_le _, by simp, rfl, Gro.refl _⟩
  case round =>
    obtain ⟨j, hj, rfl, rfl, hG⟩ := hrel
    obtain ⟨os, d, rfl⟩ := hG.out
    clear hG
    by_cases hlt : j < xs.length
    · obtain ⟨g, off, x, rfl, hgb, hxk, hx0, hx1, bx0, bx1⟩ := atFrame hx (k := j) (by rw [HL.out]; exact hlt)
      have hxe : x = mkEFrame xs[j] (k + j * 2) := by
        have := mkL_get (mk := mkEFrame) (cnt := fun _ => 2) (List.getElem?_eq_getElem hlt) k
        rw [cntL_const_take 2 (by omega), Int.natCast_mul] at this
        exact Option.some.inj (hxk.symm.trans this)
      clear hxk hx
      subst hxe
      simp only [mkEFrame] at hx0 hx1
      go_wp2_with (fail)
      go_region_held3 (fun w' => w'.cell? ⟨g, off + j * 2, none⟩ = some (.string (markTx (k + j * 2)))) ((repeat' apply And.intro) <;> (first | ((repeat (first | assumption | with_reducible refine gro_keeps ?_ _ _ | with_reducible refine alloc_keeps ?_ _ | with_reducible refine drew_keeps ?_)); done) | (simp [go_sem]; done))) (first
        | (go_at_call 105; refine (markText_l _ (by omega) (by omega) _).mono ?_; rintro e w1 ⟨rfl, os1, d1, rfl⟩))
      go_wp2_with (fail)
      go_roundw
      case rel => exact ⟨j + 1, by omega, by go_num, by go_num, Lib.hid gG⟩
      case measure => simp [intOf]; omega
    · go_wp2
      have : j = xs.length := by omega
      subst this
      go_ret
      exact ⟨ret_int (by push_cast; rfl), gG⟩
end Go.Proofs.YtgodpjnbhmahaaaGreat
namespace Go.Proofs.YtgodpjnbhmahaaaGreat
open Go.RowKit
def isLow (c : UInt8) : Bool := decide (97 ≤ (c.toNat : Int)) && decide ((c.toNat : Int) ≤ 122)
def nameOk (s : ByteArray) : Bool := s.data.toList.all isLow && btw s.size 1 8
theorem bytes_get (s : ByteArray) (k : Nat) (h : k < s.size) : s.data.toList[k]? = some s[k] := by
  rw [List.getElem?_eq_getElem (by simpa using h)]; rfl
theorem all_snoc {α : Type} {xs : List α} {f : α → Bool} {j : Nat} {x : α} (h : xs[j]? = some x) (ha : (xs.take j).all f = true) (hf : f x = true) : (xs.take (j + 1)).all f = true := by
  rw [take_snoc h, List.all_append, ha]
  simp [hf]
theorem all_not {α : Type} {xs : List α} {f : α → Bool} {j : Nat} {x : α} (h : xs[j]? = some x) (hf : f x = false) : xs.all f = false := by
  rw [List.all_eq_false]
  exact ⟨x, List.mem_of_getElem? h, by simp [hf]⟩
theorem nameOk_i (s : ByteArray) (w : World) (hs : s.size ≤ 9223372036854775807) : Calls Tryz.prog 277 #[.string s] w fun e w' => e = .returned (.bool (nameOk s)) ∧ w = w' := by
  go_enter Tryz.func277, Tryz.ntmps277
  go_wp2_with (fail)
  go_loop [3] (fun i => ∃ k : Nat, k ≤ s.size ∧ i = .int .i64 k ∧ Hid ((s.data.toList.take k).all isLow = true)) (fun i => s.size - (intOf i).toNat)
  case atStart => exact ⟨0, Nat.zero_le _, rfl, Lib.hid (by simp)⟩
  case round =>
    obtain ⟨k, hk, rfl, ha⟩ := hrel
    by_cases hlt : k < s.size
    · have HX := Lib.hid (bytes_get s k hlt)
      by_cases h1 : 97 ≤ (s[k].toNat : Int)
      · by_cases h2 : (s[k].toNat : Int) ≤ 122
        · go_wp2
          go_round
          case rel => exact ⟨k + 1, by omega, by go_num, Lib.hid (all_snoc HX.out ha.out (by simp only [isLow, Bool.and_eq_true, decide_eq_true_eq]; exact ⟨h1, h2⟩))⟩
          case measure => simp [intOf]; omega
        · have HF := Lib.hid (all_not (f := isLow) HX.out (by simp only [isLow, Bool.and_eq_false_iff, decide_eq_false_iff_not]; exact .inr h2))
          go_wp2
          go_ret
          exact ⟨ret_bool (by unfold nameOk; rw [HF.out]; rfl), rfl⟩
      · have HF := Lib.hid (all_not (f := isLow) HX.out (by simp only [isLow, Bool.and_eq_false_iff, decide_eq_false_iff_not]; exact .inl h1))
        go_wp2
        go_ret
        exact ⟨ret_bool (by unfold nameOk; rw [HF.out]; rfl), rfl⟩
    · have hje : k = s.size := by omega
      subst hje
      have HA := Lib.hid (show nameOk s = btw s.size 1 8 from by unfold nameOk; rw [← List.take_length (l := s.data.toList)]; have := ha.out; rw [show s.size = s.data.toList.length from by rw [Array.length_toList]; rfl] at this; rw [this]; rfl)
      clear ha
      go_wp2_with (first | (go_at_call 73; (with_reducible refine (in_i _ _ _ _).mono ?_); rintro e w1 ⟨rfl, rfl⟩))
      go_ret
      exact ⟨ret_bool HA.out.symm, rfl⟩
theorem nameOk_s (s : ByteArray) (w : World) (hs : s.size ≤ 9223372036854775807) : Calls Tryz.prog 267 #[.string s] w fun e w' => e = .returned (.bool (nameOk s)) ∧ w = w' := by
  go_enter Tryz.func267, Tryz.ntmps267
  go_wp2_with (fail)
  go_loop [3] (fun i => ∃ k : Nat, k ≤ s.size ∧ i = .int .i64 k ∧ Hid ((s.data.toList.take k).all isLow = true)) (fun i => s.size - (intOf i).toNat)
  case atStart => exact ⟨0, Nat.zero_le _, rfl, Lib.hid (by simp)⟩
  case round =>
    obtain ⟨k, hk, rfl, ha⟩ := hrel
    by_cases hlt : k < s.size
    · have HX := Lib.hid (bytes_get s k hlt)
      by_cases h1 : 97 ≤ (s[k].toNat : Int)
      · by_cases h2 : (s[k].toNat : Int) ≤ 122
        · go_wp2
          go_round
          case rel => exact ⟨k + 1, by omega, by go_num, Lib.hid (all_snoc HX.out ha.out (by simp only [isLow, Bool.and_eq_true, decide_eq_true_eq]; exact ⟨h1, h2⟩))⟩
          case measure => simp [intOf]; omega
        · have HF := Lib.hid (all_not (f := isLow) HX.out (by simp only [isLow, Bool.and_eq_false_iff, decide_eq_false_iff_not]; exact .inr h2))
          go_wp2
          go_ret
          exact ⟨ret_bool (by unfold nameOk; rw [HF.out]; rfl), rfl⟩
      · have HF := Lib.hid (all_not (f := isLow) HX.out (by simp only [isLow, Bool.and_eq_false_iff, decide_eq_false_iff_not]; exact .inl h1))
        go_wp2
        go_ret
        exact ⟨ret_bool (by unfold nameOk; rw [HF.out]; rfl), rfl⟩
    · have hje : k = s.size := by omega
      subst hje
      have HA := Lib.hid (show nameOk s = btw s.size 1 8 from by unfold nameOk; rw [← List.take_length (l := s.data.toList)]; have := ha.out; rw [show s.size = s.data.toList.length from by rw [Array.length_toList]; rfl] at this; rw [this]; rfl)
      clear ha
      go_wp2_with (first | (go_at_call 78; (with_reducible refine (in_s _ _ _ _).mono ?_); rintro e w1 ⟨rfl, rfl⟩))
      go_ret
      exact ⟨ret_bool HA.out.symm, rfl⟩
end Go.Proofs.YtgodpjnbhmahaaaGreat
namespace Go.Proofs.YtgodpjnbhmahaaaGreat
open Go.RowKit
def byteT : Ty UInt8 where
  size := 1
  R := fun _ _ cs x => cs = [.int .u8 (x.toNat : Int)]
  O := fun _ cs x S => cs = [.int .u8 (x.toNat : Int)] ∧ S = []
  lenR := by rintro _ _ _ _ rfl; rfl
  lenO := by rintro _ _ _ _ ⟨rfl, _⟩; rfl
  oneO := by rintro _ _ _ _ ⟨rfl, _⟩ u hu; simp at hu; subst hu; rfl
  oneR := by rintro _ _ _ _ rfl u hu; simp at hu; subst hu; rfl
  keepR := by rintro _ _ _ _ _ _ h _ _; exact h
  keepO := by rintro _ _ _ _ _ h _; exact h
  ltO := by rintro _ _ _ _ ⟨_, rfl⟩ k hk; simp at hk
  OR := by rintro _ _ _ _ _ ⟨h1, _⟩ _; exact h1
end Go.Proofs.YtgodpjnbhmahaaaGreat
namespace Go.Proofs.YtgodpjnbhmahaaaGreat
open Go.RowKit
/-- owned, no block twice, its blocks from lo to hi -/
def FrN {α : Type} (T : Ty α) (lo hi : Nat) (W : World) (cs : List Value) (x : α) : Prop := ∃ S, T.O W cs x S ∧ S.Nodup ∧ ∀ b ∈ S, lo ≤ b ∧ b < hi
/-- .. from lo to hi, or from n on -/
def Fr2N {α : Type} (T : Ty α) (lo hi n : Nat) (W : World) (cs : List Value) (x : α) : Prop := ∃ S, T.O W cs x S ∧ S.Nodup ∧ ∀ b ∈ S, (lo ≤ b ∧ b < hi) ∨ n ≤ b
section
variable {α : Type} {T : Ty α} {w w1 w2 : World} {lo hi n : Nat} {cs : List Value} {x : α}
theorem FrN.same (h : FrN T lo hi w1 cs x) (hs : Same lo hi w1 w2) : FrN T lo hi w2 cs x := by
  obtain ⟨S, h1, h2, h3⟩ := h
  exact ⟨S, T.keepO h1 (fun k hk => hs k (h3 k hk).1 (h3 k hk).2), h2, h3⟩
theorem FrN.gro (h : FrN T lo hi w1 cs x) (hg : Gro w1 w2) : FrN T lo hi w2 cs x := by
  obtain ⟨S, h1, h2, h3⟩ := h
  exact ⟨S, T.groO h1 hg, h2, h3⟩
theorem FrN.wide {lo' hi' : Nat} (h : FrN T lo hi w1 cs x) (h1 : lo' ≤ lo) (h2 : hi ≤ hi') : FrN T lo' hi' w1 cs x := by
  obtain ⟨S, h3, h4, h5⟩ := h
  exact ⟨S, h3, h4, fun b hb => by have := h5 b hb; omega⟩
theorem FrN.read (h : FrN T lo hi w1 cs x) : T.R w1 w1.heap.size cs x := by
  obtain ⟨S, h1, _, _⟩ := h
  exact T.read h1
theorem FrN.two (h : FrN T lo hi w1 cs x) : Fr2N T lo hi n w1 cs x := by
  obtain ⟨S, h1, h2, h3⟩ := h
  exact ⟨S, h1, h2, fun b hb => .inl (h3 b hb)⟩
theorem Fr2N.same (h : Fr2N T lo hi n w1 cs x) (hs : Same lo hi w1 w2) (ht : Same n w1.heap.size w1 w2) : Fr2N T lo hi n w2 cs x := by
  obtain ⟨S, h1, h2, h3⟩ := h
  refine ⟨S, T.keepO h1 (fun k hk => ?_), h2, h3⟩
  rcases h3 k hk with h | h
  · exact hs k h.1 h.2
  · exact ht k h (T.ltO h1 k hk)
theorem Fr2N.gro (h : Fr2N T lo hi n w1 cs x) (hg : Gro w1 w2) : Fr2N T lo hi n w2 cs x := by
  obtain ⟨S, h1, h2, h3⟩ := h
  exact ⟨S, T.groO h1 hg, h2, h3⟩
theorem Fr2N.read (h : Fr2N T lo hi n w1 cs x) : T.R w1 w1.heap.size cs x := by
  obtain ⟨S, h1, _, _⟩ := h
  exact T.read h1
theorem Fr2N.fresh (h : Fr2N T lo hi n w1 cs x) (h1 : w.heap.size ≤ lo) (h2 : w.heap.size ≤ n) : Fresh T w w1 cs x := by
  obtain ⟨S, h3, h4, h5⟩ := h
  exact ⟨S, h3, h4, fun b hb => by have := h5 b hb; omega⟩
theorem FrN.fresh (h : FrN T lo hi w1 cs x) (h1 : w.heap.size ≤ lo) : Fresh T w w1 cs x := by
  obtain ⟨S, h3, h4, h5⟩ := h
  exact ⟨S, h3, h4, fun b hb => by have := h5 b hb; omega⟩
end
section
variable {α : Type} {T : Ty α} {e : TypeId} {P : Program} {t : TypeId} {bytes : Nat} {ops : Array Oper} {o : Oper} {a : Act} {Q : Exit → Act → World → Prop} {K : Act → World → Prop}
end
end Go.Proofs.YtgodpjnbhmahaaaGreat
namespace Go.Proofs.YtgodpjnbhmahaaaGreat
open Go.RowKit
theorem cell_up {a b : World} (h : Gro a b) {p : Addr} {v : Value} (hp : a.cell? p = some v) : b.cell? p = some v := by
  obtain ⟨os, d, rfl⟩ := h
  exact gro_keeps hp os d
/-- a cursor's block -/
structure Cur (w W : World) (k : Nat) : Prop where
  lo : w.heap.size ≤ k
  gro : Gro w W
  at_ : ∃ (A : Option Addr) (n c : Nat) (i h : Int) (xs : List UInt8), W.heap[k]? = some (.cells #[.slice A n c, .int .i64 i, .int .i64 h] 200 (0, 0)) ∧ 0 ≤ i ∧ I64 i ∧ I64 h ∧ (byteT.sl 5).R w w.heap.size [.slice A n c] xs
theorem Cur.lt {w W : World} {k : Nat} (h : Cur w W k) : k < W.heap.size := by
  obtain ⟨_, _, _, _, _, _, h1, _⟩ := h.at_
  exact (Array.getElem?_eq_some_iff.1 h1).1
/-- a world that has the cursor's block and grows from the same beginning -/
theorem Cur.to {w W W' : World} {k : Nat} (h : Cur w W k) (hb : W'.heap[k]? = W.heap[k]?) (hg : Gro w W') : Cur w W' k := by
  obtain ⟨A, n, c, i, h', xs, h1, h2⟩ := h.at_
  exact ⟨h.lo, hg, A, n, c, i, h', xs, by rw [hb]; exact h1, h2⟩
theorem Cur.more {w W W' : World} {k : Nat} (h : Cur w W k) (hg : Gro W W') : Cur w W' k := h.to (hg.block h.lt) (h.gro.trans hg)
theorem Cur.only {w W W' : World} {k : Nat} {S : List Nat} (h : Cur w W k) (hs : OnlyS S W W') (hk : k ∉ S) (hS : ∀ b ∈ S, w.heap.size ≤ b) : Cur w W' k := h.to (hs.block k h.lt hk) (hs.gro h.gro hS)
theorem Cur.below {w W W' : World} {k lo : Nat} (h : Cur w W k) (hb : Below lo W W') (hk : k < lo) : Cur w W' k :=
  h.to (hb.block k hk) (Gro.of_below (h.gro.below.trans (hb.mono (by have := h.lo; omega))))
theorem OnlyS.below {S : List Nat} {a W W' : World} {lo : Nat} (h : OnlyS S a W) (hb : Below lo W W') (hl : a.heap.size ≤ lo) : OnlyS S a W' :=
  ⟨hb.os.trans h.os, hb.tape.trans h.tape, hb.output.trans h.output, Nat.le_trans h.size hb.size, fun i hi hn => (hb.block i (by omega)).trans (h.block i hi hn)⟩
theorem FrN.only {α : Type} {T : Ty α} {lo hi k : Nat} {a b : World} {cs : List Value} {x : α} (h : FrN T lo hi a cs x) (hs : OnlyS [k] a b) (hk : k < lo) : FrN T lo hi b cs x := by
  obtain ⟨S, h1, h2, h3⟩ := h
  exact ⟨S, T.keepO h1 (fun j hj => hs.block j (T.ltO h1 j hj) (by have := h3 j hj; simp; omega)), h2, h3⟩
section
variable {α : Type} {T : Ty α} {e : TypeId} {P : Program} {t : TypeId} {bytes : Nat} {ops : Array Oper} {rest : List Oper} {o : Oper} {a : Act} {Q : Exit → Act → World → Prop} {K : Act → World → Prop}
end
end Go.Proofs.YtgodpjnbhmahaaaGreat
namespace Go.Proofs.YtgodpjnbhmahaaaGreat
open Go.RowKit
theorem box2 {W : World} {g : Nat} {a b : Value} {e : TypeId} (h : W.heap[g]? = some (.cells #[a, b] e (0, 0))) :
    W.cell? ⟨g, 0, none⟩ = some a ∧ W.cell? ⟨g, 1, none⟩ = some b ∧ W.frozen? ⟨g, 0, none⟩ = false ∧ W.frozen? ⟨g, 1, none⟩ = false ∧ g < W.heap.size := by
  refine ⟨?_, ?_, by simp [World.frozen?, h], by simp [World.frozen?, h], (Array.getElem?_eq_some_iff.1 h).1⟩
  all_goals
    rw [cell_of_row W g _ _ _ (0, 0) h]
    rfl
theorem set2 {W : World} {g : Nat} {p q : Value} {e : TypeId} (h : W.heap[g]? = some (.cells #[p, q] e (0, 0))) (a b : Value) :
    ((W.setCell ⟨g, 0, none⟩ a).setCell ⟨g, 1, none⟩ b).heap[g]? = some (.cells #[a, b] e (0, 0)) ∧ OnlyS [g] W ((W.setCell ⟨g, 0, none⟩ a).setCell ⟨g, 1, none⟩ b) :=
  ⟨heap_setCell_at (heap_setCell_at h 0 a) 1 b, ((OnlyS.refl _ _).setCell (p := ⟨g, 0, none⟩) (by simp) a).setCell (p := ⟨g, 1, none⟩) (by simp) b⟩
theorem grow_blk {S Y : World} {k : Nat} {o : Obj} (h : S.heap[k]? = some o) (hG : Gro S Y) : Y.heap[k]? = some o :=
  (hG.block (Array.getElem?_eq_some_iff.1 h).1).trans h
/-- a box of four numbers -/
theorem box4 {W : World} {g : Nat} {a b c d : Value} {e : TypeId} (h : W.heap[g]? = some (.cells #[a, b, c, d] e (0, 0))) :
    W.cell? ⟨g, 0, none⟩ = some a ∧ W.cell? ⟨g, 1, none⟩ = some b ∧ W.cell? ⟨g, 2, none⟩ = some c ∧ W.cell? ⟨g, 3, none⟩ = some d ∧ (∀ j, W.frozen? ⟨g, j, none⟩ = false) := by
  refine ⟨?_, ?_, ?_, ?_, fun j => by simp [World.frozen?, h]⟩
  all_goals
    rw [cell_of_row W g _ _ _ (0, 0) h]
    rfl
theorem set4 {W : World} {g : Nat} {p q r s : Value} {e : TypeId} (h : W.heap[g]? = some (.cells #[p, q, r, s] e (0, 0))) (a b c d : Value) :
    ((((W.setCell ⟨g, 0, none⟩ a).setCell ⟨g, 1, none⟩ b).setCell ⟨g, 2, none⟩ c).setCell ⟨g, 3, none⟩ d).heap[g]? = some (.cells #[a, b, c, d] e (0, 0)) ∧ OnlyS [g] W ((((W.setCell ⟨g, 0, none⟩ a).setCell ⟨g, 1, none⟩ b).setCell ⟨g, 2, none⟩ c).setCell ⟨g, 3, none⟩ d) :=
  ⟨heap_setCell_at (heap_setCell_at (heap_setCell_at (heap_setCell_at h 0 a) 1 b) 2 c) 3 d, ((((OnlyS.refl _ _).setCell (p := ⟨g, 0, none⟩) (by simp) a).setCell (p := ⟨g, 1, none⟩) (by simp) b).setCell (p := ⟨g, 2, none⟩) (by simp) c).setCell (p := ⟨g, 3, none⟩) (by simp) d⟩
end Go.Proofs.YtgodpjnbhmahaaaGreat
namespace Go.Proofs.YtgodpjnbhmahaaaGreat
open Go.RowKit
def inl1 (x : DInline) : Bool := decide (0 ≤ x.Start) && decide (x.Start < x.End) && decide (x.End ≤ 1000000) && btw x.Level 0 2 && btw x.Line 0 59 && nameOk x.Name
set_option maxRecDepth 100000 in
set_option maxHeartbeats 3000000 in
theorem inlineOk_i {x : DInline} {w : World} (hs : x.Name.size ≤ 9223372036854775807) : Calls Tryz.prog 326 #[.agg #[.int .i64 x.Start, .int .i64 x.End, .int .i64 x.Level, .int .i64 x.Line, .string x.Name]] w fun r w' => r = .returned (.bool (inl1 x)) ∧ Gro w w' := by
  by_cases a1 : 0 ≤ x.Start
  · have a1b : decide (0 ≤ x.Start) = true := decide_eq_true a1
    by_cases a2 : x.Start < x.End
    · have a2b : decide (x.Start < x.End) = true := decide_eq_true a2
      by_cases a3 : x.End ≤ 1000000
      · have a3b : decide (x.End ≤ 1000000) = true := decide_eq_true a3
        obtain ⟨b4, hb4⟩ : ∃ b, btw x.Level 0 2 = b := ⟨_, rfl⟩
        have HB4 := Lib.hid hb4
        clear hb4
        cases b4 with
        | false =>
          have HR := Lib.hid (show inl1 x = false from by unfold inl1; rw [HB4.out]; simp)
          go_enter Tryz.func326, Tryz.ntmps326
          go_wp2_with (first | (go_at_call 73; (with_reducible refine (in_i x.Level 0 2 _).mono ?_); rw [HB4.out]; rintro e w1 ⟨rfl, rfl⟩))
          go_ret
          exact ⟨ret_bool HR.out.symm, gG⟩
        | true =>
          obtain ⟨b5, hb5⟩ : ∃ b, btw x.Line 0 59 = b := ⟨_, rfl⟩
          have HB5 := Lib.hid hb5
          clear hb5
          cases b5 with
          | false =>
            have HR := Lib.hid (show inl1 x = false from by unfold inl1; rw [HB5.out]; simp)
            go_enter Tryz.func326, Tryz.ntmps326
            go_wp2_with (first | (go_at_call 73; (with_reducible refine (in_i x.Level 0 2 _).mono ?_); rw [HB4.out]; rintro e w1 ⟨rfl, rfl⟩) | (go_at_call 73; (with_reducible refine (in_i x.Line 0 59 _).mono ?_); rw [HB5.out]; rintro e w1 ⟨rfl, rfl⟩))
            go_ret
            exact ⟨ret_bool HR.out.symm, gG⟩
          | true =>
            have HR := Lib.hid (show inl1 x = nameOk x.Name from by unfold inl1; rw [decide_eq_true a1, decide_eq_true a2, decide_eq_true a3, HB4.out, HB5.out]; simp)
            go_enter Tryz.func326, Tryz.ntmps326
            go_wp2_with (first | (go_at_call 73; (with_reducible refine (in_i x.Level 0 2 _).mono ?_); rw [HB4.out]; rintro e w1 ⟨rfl, rfl⟩) | (go_at_call 73; (with_reducible refine (in_i x.Line 0 59 _).mono ?_); rw [HB5.out]; rintro e w1 ⟨rfl, rfl⟩) | (go_at_call 277; (with_reducible refine (nameOk_i x.Name _ hs).mono ?_); rintro e w1 ⟨rfl, rfl⟩))
            go_ret
            exact ⟨ret_bool HR.out.symm, gG⟩
      · have a3b : decide (x.End ≤ 1000000) = false := decide_eq_false a3
        have HR := Lib.hid (show inl1 x = false from by unfold inl1; rw [a3b]; simp)
        go_enter Tryz.func326, Tryz.ntmps326
        go_wp2_with (fail)
        go_ret
        exact ⟨ret_bool HR.out.symm, gG⟩
    · have a2b : decide (x.Start < x.End) = false := decide_eq_false a2
      have HR := Lib.hid (show inl1 x = false from by unfold inl1; rw [a2b]; simp)
      go_enter Tryz.func326, Tryz.ntmps326
      go_wp2_with (fail)
      go_ret
      exact ⟨ret_bool HR.out.symm, gG⟩
  · have a1b : decide (0 ≤ x.Start) = false := decide_eq_false a1
    have HR := Lib.hid (show inl1 x = false from by unfold inl1; rw [a1b]; simp)
    go_enter Tryz.func326, Tryz.ntmps326
    go_wp2_with (fail)
    go_ret
    exact ⟨ret_bool HR.out.symm, gG⟩
end Go.Proofs.YtgodpjnbhmahaaaGreat
namespace Go.Proofs.YtgodpjnbhmahaaaGreat
open Go.RowKit
def inlBad (q x : DInline) : Bool := decide (x.Level < q.Level) || (q.Level == x.Level && decide (x.Start < q.End))
def inlIn (x y : DInline) : Bool := y.Level == x.Level - 1 && (decide (y.Start ≤ x.Start) && decide (x.End ≤ y.End))
def inlAny (x : DInline) : Bool → List DInline → Bool
  | b, [] => b
  | b, y :: ys => inlAny x (b || inlIn x y) ys
/-- the record ahead of place k is wrong for x -/
def inlPrev (all : List DInline) (k : Nat) (x : DInline) : Bool := match k with
  | 0 => false
  | j + 1 => inlBad (all[j]?.getD x) x
def inlK (all : List DInline) (k : Nat) (x : DInline) : Bool := inl1 x && !inlPrev all k x && inlAny x (x.Level == 0) (all.take k)
def inlG (all : List DInline) : Nat → List DInline → Bool
  | _, [] => true
  | k, x :: r => inlK all k x && inlG all (k + 1) r
def inlinesOk (xs : List DInline) : Bool := inlG xs 0 xs
theorem inlG_at {all rs : List DInline} {k : Nat} {x : DInline} (h : rs[k]? = some x) : inlG all k (rs.drop k) = (inlK all k x && inlG all (k + 1) (rs.drop (k + 1))) := by
  obtain ⟨h1, rfl⟩ := List.getElem?_eq_some_iff.1 h
  rw [List.drop_eq_getElem_cons h1]
  rfl
theorem inlK_one {all : List DInline} {k : Nat} {x : DInline} (h : inl1 x = false) : inlK all k x = false := by
  unfold inlK
  rw [h]
  rfl
theorem inlK_bad {all : List DInline} {j : Nat} {x q : DInline} (h : all[j]? = some q) (hb : inlBad q x = true) : inlK all (j + 1) x = false := by
  unfold inlK inlPrev
  simp only [h, Option.getD_some, hb]
  simp
theorem inlK_zero {all : List DInline} {x : DInline} (h : inl1 x = true) : inlK all 0 x = inlAny x (x.Level == 0) (all.take 0) := by
  unfold inlK inlPrev
  rw [h]
  rfl
theorem inlK_succ {all : List DInline} {j : Nat} {x q : DInline} (h : inl1 x = true) (hq : all[j]? = some q) (hb : inlBad q x = false) : inlK all (j + 1) x = inlAny x (x.Level == 0) (all.take (j + 1)) := by
  unfold inlK inlPrev
  simp only [hq, Option.getD_some, hb, h]
  rfl
theorem inl1_lev {x : DInline} (h : inl1 x = true) : 0 ≤ x.Level ∧ x.Level ≤ 2 := by
  unfold inl1 at h
  simp only [Bool.and_eq_true] at h
  exact btw_iff.1 h.1.1.2
theorem inlAny_at {x y : DInline} {rs : List DInline} {k i : Nat} (h : rs[i]? = some y) (hik : i < k) (b : Bool) : inlAny x b ((rs.take k).drop i) = inlAny x (b || inlIn x y) ((rs.take k).drop (i + 1)) := by
  obtain ⟨h1, rfl⟩ := List.getElem?_eq_some_iff.1 h
  have h2 : i < (rs.take k).length := by rw [List.length_take]; omega
  rw [List.drop_eq_getElem_cons h2]
  show inlAny x (b || inlIn x (rs.take k)[i]) _ = _
  rw [List.getElem_take]
theorem inlAny_end {x : DInline} {rs : List DInline} {k i : Nat} (h : k ≤ i) (b : Bool) : inlAny x b ((rs.take k).drop i) = b := by
  rw [List.drop_eq_nil_of_le (by rw [List.length_take]; omega)]
  rfl
def inlinesAt (xs : List DInline) (off : Int) : List DInline := if inlinesOk xs = true then xs.filter (fun x => decide (x.Start ≤ off) && decide (off < x.End)) else []
end Go.Proofs.YtgodpjnbhmahaaaGreat
namespace Go.Proofs.YtgodpjnbhmahaaaGreat
open Go.RowKit
theorem own_mix {α : Type} {T : Ty α} {e : TypeId} {w : World} {A : Option Addr} {n c : Nat} {xs : List α} {S : List Nat} (h : (T.sl e).O w [.slice A n c] xs S) (hS : S.Nodup) {k : Nat} {x : α} (hx : xs[k]? = some x) :
    ∃ g ec Sc cur, A = some ⟨g, 0, none⟩ ∧ g ∈ S ∧ g < w.heap.size ∧ g ∉ Sc ∧ (∀ j ∈ Sc, j ∈ S) ∧ Sc.Nodup ∧ T.O w ec x Sc ∧ w.heap[g]? = some (.cells cur e (0, 0)) ∧ k * T.size + T.size ≤ cur.size ∧ (∀ (j : Nat) (u : Value), ec[j]? = some u → cur[k * T.size + j]? = some u) ∧
      (∀ (w' : World) (y : α) (ec' : List Value) (cur' : Array Value), T.O w' ec' y Sc → w'.heap[g]? = some (.cells cur' e (0, 0)) → cur'.size = cur.size → (∀ i, i < k * T.size ∨ k * T.size + T.size ≤ i → cur'[i]? = cur[i]?) → (∀ (j : Nat) (u : Value), ec'[j]? = some u → cur'[k * T.size + j]? = some u) → OnlyS (g :: Sc) w w' → (T.sl e).O w' [.slice A n c] (xs.set k y) S) := by
  obtain ⟨A', c', ecs, S', h1, h2, h3, rfl⟩ := h
  injection h1 with h1 _
  injection h1 with hA hn hc
  subst hA hn hc
  have hk : k < xs.length := (List.getElem?_eq_some_iff.1 hx).1
  obtain ⟨a, ec, b, Sa, Sc, Sb, rfl, rfl, hl, ha, hO, hb⟩ := Rows.part h3 hx
  obtain ⟨hlen, hrest⟩ := h2
  rcases hrest with ⟨_, hn⟩ | ⟨g, cap, cur, hv, hbase, hg, hnc, hcm, hcs, htake⟩
  · omega
  · injection hv with hA _ hc
    subst hA hc
    have hgl : g < w.heap.size := (Array.getElem?_eq_some_iff.1 hg).1
    simp only [blockOf, List.singleton_append, List.nodup_cons, List.nodup_append, List.mem_append, not_or] at hS
    obtain ⟨⟨hga, hgc, hgb⟩, hna, ⟨hncd, hnb, hdcb⟩, hda⟩ := hS
    have hec : ec.length = T.size := T.lenO hO
    have hlc : (a ++ (ec ++ b)).length ≤ cur.size := by
      rw [← htake, List.length_take]
      have : cur.toList.length = cur.size := Array.length_toList
      omega
    have hcell : ∀ (j : Nat) (u : Value), (a ++ (ec ++ b))[j]? = some u → cur[j]? = some u := by
      intro j u hu
      rw [← htake, List.getElem?_take] at hu
      split at hu
      · simpa using hu
      · cases hu
    have hl2 : (a ++ (ec ++ b)).length = a.length + ec.length + b.length := by simp only [List.length_append]; omega
    have hM : xs.length * T.size = a.length + ec.length + b.length := by rw [← hlen, hl2]
    refine ⟨g, ec, Sc, cur, rfl, by simp [blockOf], hgl, hgc, fun j hj => by simp [hj], hncd, hO, hg, by omega, fun j u hu => ?_, fun w' y ec' cur' hy hg' hsz hout hin hon => ?_⟩
    · apply hcell
      rw [List.getElem?_append_right (by omega), hl, Nat.add_sub_cancel_left, List.getElem?_append_left (List.getElem?_eq_some_iff.1 hu).1]
      exact hu
    · have hec' : ec'.length = T.size := T.lenO hy
      have hlt : ∀ {S : List Nat} {ecs : List Value} {xs : List α}, Rows T w ecs xs S → ∀ i ∈ S, i < w.heap.size := fun h i hi => Rows.lt h i hi
      refine ⟨some ⟨g, 0, none⟩, c, a ++ (ec' ++ b), _, by rw [List.length_set], ⟨?_, .inr ⟨g, c, cur', by rw [List.length_set], hbase, hg', by simpa using hnc, hcm, by rw [hsz]; exact hcs, ?_⟩⟩, Rows.join hx (Rows.keep ha ?_) hy (Rows.keep hb ?_), rfl⟩
      · rw [List.length_set, ← hlen]
        simp [hec, hec']
      · rw [List.length_set]
        apply List.ext_getElem?
        intro i
        have hcl : cur'.toList.length = cur'.size := Array.length_toList
        rw [List.getElem?_take]
        by_cases hi : i < xs.length * T.size
        · rw [if_pos hi, Array.getElem?_toList]
          have hci : ∀ u, (a ++ (ec ++ b))[i]? = some u → cur[i]? = some u := hcell i
          by_cases h1 : i < k * T.size
          · rw [hout i (.inl h1), List.getElem?_append_left (by omega)]
            have h2 : i < a.length := by omega
            rw [List.getElem?_eq_getElem h2]
            exact hci _ (by rw [List.getElem?_append_left h2, List.getElem?_eq_getElem h2])
          · by_cases h2 : i < k * T.size + T.size
            · rw [List.getElem?_append_right (by omega), List.getElem?_append_left (by omega)]
              have h3 : i - a.length < ec'.length := by omega
              rw [List.getElem?_eq_getElem h3]
              have := hin (i - a.length) _ (List.getElem?_eq_getElem h3)
              rw [show k * T.size + (i - a.length) = i from by omega] at this
              exact this
            · rw [hout i (.inr (by omega)), List.getElem?_append_right (by omega), List.getElem?_append_right (by omega)]
              have h3 : i - a.length - ec'.length < b.length := by omega
              rw [List.getElem?_eq_getElem h3]
              refine hci _ ?_
              rw [List.getElem?_append_right (by omega), List.getElem?_append_right (by omega), show i - a.length - ec.length = i - a.length - ec'.length from by omega, List.getElem?_eq_getElem h3]
        · rw [if_neg hi, List.getElem?_eq_none (by simp only [List.length_append]; omega)]
      · exact fun i hi => hon.block i (hlt ha i hi) (fun hm => by
          rcases List.mem_cons.1 hm with rfl | hm
          · exact hga hi
          · exact hda i hi i (.inl hm) rfl)
      · exact fun i hi => hon.block i (hlt hb i hi) (fun hm => by
          rcases List.mem_cons.1 hm with rfl | hm
          · exact hgb hi
          · exact hdcb i hm i hi rfl)
theorem keepS {α : Type} (T : Ty α) {w w' : World} {cs : List Value} {x : α} {S L : List Nat} (h : T.O w cs x S) (ho : OnlyS L w w') (hd : ∀ b ∈ S, b ∉ L) : T.O w' cs x S :=
  T.keepO h (fun k hk => ho.block k (T.ltO h k hk) (hd k hk))
theorem not_one {g : Nat} {S : List Nat} (h : g ∉ S) : ∀ b ∈ S, b ∉ [g] := fun b hb hm => by
  simp only [List.mem_singleton] at hm
  exact h (hm ▸ hb)
theorem frz_blk {W : World} {g : Nat} {cur : Array Value} {e : TypeId} (h : W.heap[g]? = some (.cells cur e (0, 0))) : ∀ j, W.frozen? ⟨g, j, none⟩ = false := fun j => by simp [World.frozen?, h]
end Go.Proofs.YtgodpjnbhmahaaaGreat
namespace Go.Proofs.YtgodpjnbhmahaaaGreat
open Go.RowKit
def RetSymbol (x : DSymbol) (w : World) (r : Ending) (w' : World) : Prop := r = .returned (.agg #[.string x.Name, .int .i64 x.Start, .int .i64 x.Size]) ∧ Fresh tSymbol w w' [.string x.Name, .int .i64 x.Start, .int .i64 x.Size] x ∧ Gro w w'
theorem tSymbol_mkOd {w : World} {x : DSymbol} (h0 : x.Name.size ≤ 9223372036854775807) (h1 : I64 x.Start) (h2 : I64 x.Size) : tSymbol.O w [.string x.Name, .int .i64 x.Start, .int .i64 x.Size] x ([]) := by
  have h : tSymbol.O w [.string x.Name, .int .i64 x.Start, .int .i64 x.Size] x ([] ++ ([] ++ [])) := ⟨[.string x.Name], [.int .i64 x.Start, .int .i64 x.Size], [], ([] ++ []), rfl, rfl, ⟨rfl, h0, rfl⟩, ⟨[.int .i64 x.Start], [.int .i64 x.Size], [], [], rfl, rfl, ⟨rfl, h1.1, h1.2, rfl⟩, ⟨rfl, h2.1, h2.2, rfl⟩⟩⟩
  simpa using h
theorem eq_DSymbol {x y : DSymbol} : x = y ↔ x.Name = y.Name ∧ x.Start = y.Start ∧ x.Size = y.Size := by
  cases x
  cases y
  simp
def szSymbol (x : DSymbol) : Nat := x.Name.size
set_option maxRecDepth 100000 in
theorem toSymbol_l {x : DSymbol} {w : World} (h0 : x.Name.size ≤ 9223372036854775807) (h1 : I64 x.Start) (h2 : I64 x.Size) (hn : szSymbol x ≤ 1099511627776) : Calls Tryz.prog 345 #[.agg #[.string x.Name, .int .i64 x.Start, .int .i64 x.Size]] w (RetSymbol x w) := by
  unfold szSymbol at hn
  go_enter Tryz.func345, Tryz.ntmps345
  go_wp2
  refine bodyPost_ret (v := .agg #[.string x.Name, .int .i64 x.Start, .int .i64 x.Size]) (by simp [results, Tryz.results345, go_sem]) rfl ⟨rfl, ?_, gG⟩
  exact ⟨_, tSymbol_mkOd h0 h1 h2, List.nodup_nil, fun b hb => absurd hb (List.not_mem_nil)⟩
set_option maxRecDepth 100000 in
theorem szSymbol_l {x : DSymbol} {w : World} {left : Int} (h0 : x.Name.size ≤ 9223372036854775807) (h00 : 0 ≤ left) (h01 : left ≤ 1099511627776) : Calls Tryz.prog 343 #[.agg #[.string x.Name, .int .i64 x.Start, .int .i64 x.Size], .int .i64 left] w fun e w' => e = .returned (.int .i64 (szRes left (szSymbol x))) ∧ Gro w w' := by
  obtain ⟨n0, hn0⟩ : ∃ n, x.Name.size = n := ⟨_, rfl⟩
  have HS := Lib.hid (show szSymbol x = n0 from by unfold szSymbol; rw [hn0])
  have HN0 := Lib.hid hn0
  clear hn0
  by_cases c0' : (n0 : Int) ≤ left
  · skip
    have hx0 : x.Name.size = n0 := HN0.out
    go_enter Tryz.func343, Tryz.ntmps343
    go_wp2
    go_ret
    exact ⟨ret_int (by rw [HS.out]; unfold szRes; rw [if_pos (by omega)] <;> omega), gG⟩
  · have hx0 : x.Name.size = n0 := HN0.out
    go_enter Tryz.func343, Tryz.ntmps343
    go_wp2
    go_ret
    exact ⟨ret_int (by rw [HS.out]; unfold szRes; rw [if_neg (by omega)]), gG⟩
set_option maxRecDepth 100000 in
theorem eqSymbol_l {x y : DSymbol} {w : World}  : Calls Tryz.prog 219 #[.agg #[.string x.Name, .int .i64 x.Start, .int .i64 x.Size], .agg #[.string y.Name, .int .i64 y.Start, .int .i64 y.Size]] w fun e w' => e = .returned (.bool (decide (x = y))) ∧ Gro w w' := by
  go_enter Tryz.func219, Tryz.ntmps219
  go_wp2
  all_goals
    go_ret
    refine ⟨ret_bool ?_, gG⟩
    simp_all [eq_DSymbol, toList_inj']
end Go.Proofs.YtgodpjnbhmahaaaGreat
namespace Go.Proofs.YtgodpjnbhmahaaaGreat
open Go.RowKit
theorem atSymbol {e : TypeId} {w : World} {B : Nat} {A : Option Addr} {n c : Nat} {xs : List DSymbol} (h : (tSymbol.sl e).R w B [.slice A n c] xs) {k : Nat} (hk : k < xs.length) :
    ∃ g off x , A = some ⟨g, off, none⟩ ∧ g < B ∧ xs[k]? = some x ∧ w.cell? ⟨g, off + k * 3, none⟩ = some (.string x.Name) ∧ w.cell? ⟨g, off + k * 3 + 1, none⟩ = some (.int .i64 x.Start) ∧ w.cell? ⟨g, off + k * 3 + 2, none⟩ = some (.int .i64 x.Size) ∧ x.Name.size ≤ 9223372036854775807 ∧ I64 x.Start ∧ I64 x.Size := by
  obtain ⟨g, off, x, ec, h1, hB, h2, h3, h4⟩ := elem_at h hk
  obtain ⟨rfl, hf⟩ := tSymbol_R h3
  exact ⟨g, off, x, h1, hB, h2, h4 0 _ rfl, h4 1 _ rfl, h4 2 _ rfl, hf⟩
def mkESymbol (_ : DSymbol) (k : Int) : DSymbol := ⟨markTx k, k + 1, k + 1 + 1⟩
def mkSymbolS (xs : List DSymbol) (k : Int) : List DSymbol := mkL mkESymbol (fun _ => 3) xs k
def cntSymbolS (xs : List DSymbol) : Nat := xs.length * 3
theorem mkSymbolS_length (xs : List DSymbol) (k : Int) : (mkSymbolS xs k).length = xs.length := mkL_length _ _
theorem toSymbolS_info : (Tryz.prog.info? 193).map (fun i => (i.zero, i.size, i.bytes)) = some (some (.agg #[.string ⟨#[]⟩, .int .i64 0, .int .i64 0]), 3, 32) := by kernel_rfl
set_option maxRecDepth 100000 in
theorem szSymbolS_l {xs : List DSymbol} {w : World} {v : Value} {left : Int} (hx : (tSymbol.sl 193).R w w.heap.size [v] xs) (h0 : 0 ≤ left) (h1 : left ≤ 1099511627776) :
    Calls Tryz.prog 290 #[v, .int .i64 left] w fun e w' => e = .returned (.int .i64 (szRes left (szL szSymbol xs))) ∧ Gro w w' := by
  obtain ⟨A, c, rfl, h2, h3⟩ := sl_at hx
  by_cases h : (xs.length : Int) ≤ left
  · go_enter Tryz.func290, Tryz.ntmps290
    go_wp2_with (fail)
    go_loopw [1, 5] (fun a i wr => ∃ (j s : Nat), j ≤ xs.length ∧ Hid (s = ((xs.take j).map szSymbol).sum) ∧ (xs.length : Int) + s ≤ left ∧ a = .int .i64 (left - xs.length - s) ∧ i = .int .i64 j ∧ Hid (Gro w wr)) (fun _ i _ => xs.length - (intOf i).toNat)
    case atStart => exact ⟨0, 0, Nat.zero_le _, rfl, by omega, by simp, rfl, Gro.refl _⟩
    case round =>
      obtain ⟨j, s, hj, hs, hle, rfl, rfl, hG⟩ := hrel
      obtain ⟨os, d, rfl⟩ := hG.out
      clear hG
      by_cases hlt : j < xs.length
      · obtain ⟨g, off, x, rfl, hgb, hxk, hx0, hx1, hx2, bx0, bx1, bx2⟩ := atSymbol hx hlt
        have HX := Lib.hid (szSnoc szSymbol hxk)
        have HM := Lib.hid (szLe szSymbol xs (j + 1))
        obtain ⟨n0, hn0⟩ : ∃ n, szSymbol x = n := ⟨_, rfl⟩
        have HN := Lib.hid hn0
        clear hxk hx hn0
        by_cases hsz : (xs.length : Int) + s + n0 ≤ left
        · have HR := Lib.hid (show szRes (left - xs.length - s) n0 = left - xs.length - s - n0 from if_pos (by omega))
          go_wp2_with (go_at_call 343; refine (szSymbol_l (x := x) bx0 (by omega) (by omega)).mono ?_; rw [HN.out, HR.out]; rintro e w1 ⟨rfl, os1, d1, rfl⟩)
          go_roundw
          case rel => exact ⟨j + 1, s + n0, by omega, Lib.hid (by rw [hs.out, HX.out, HN.out]), by omega, by go_num, by go_num, Lib.hid gG⟩
          case measure => simp [intOf]; omega
        · have HR := Lib.hid (show szRes (left - xs.length - s) n0 = -1 from if_neg (by omega))
          have HQ := Lib.hid (show szRes left (szL szSymbol xs) = -1 from if_neg (by have h1 := HX.out; have h2 := HM.out; have h3 := hs.out; have h4 := HN.out; unfold szL; omega))
          go_wp2_with (go_at_call 343; refine (szSymbol_l (x := x) bx0 (by omega) (by omega)).mono ?_; rw [HN.out, HR.out]; rintro e w1 ⟨rfl, os1, d1, rfl⟩)
          go_ret
          exact ⟨ret_int HQ.out.symm, gG⟩
      · go_wp2
        go_ret
        exact ⟨ret_int (by
          have h3 := hs.out
          rw [szAll szSymbol (show j = xs.length by omega)] at h3
          unfold szRes szL
          rw [if_pos (by omega)]
          omega), gG⟩
  · have HR := Lib.hid (show szRes left (szL szSymbol xs) = -1 from if_neg (by unfold szL; omega))
    go_enter Tryz.func290, Tryz.ntmps290
    go_wp2
    go_ret
    exact ⟨ret_int HR.out.symm, Gro.refl _⟩
set_option maxRecDepth 100000 in
theorem toSymbolS_l {xs : List DSymbol} {w : World} {v : Value} (hx : (tSymbol.sl 193).R w w.heap.size [v] xs) (hn : szL szSymbol xs ≤ 1099511627776) :
    Calls Tryz.prog 294 #[v] w (RetSl tSymbol 193 xs w) := by
  obtain ⟨A, c, rfl, h2, h3⟩ := sl_at hx
  obtain ⟨i0, hi, hz0, hz1, hz2⟩ := info_parts toSymbolS_info
  have hn1 : xs.length ≤ 1099511627776 := Nat.le_trans (szL_len _ _) hn
  have hmk := run_make_rowN (P := Tryz.prog) 92 193 i0 _ Tryz.underlying92 hi hz0 .i64 .i64 xs.length xs.length (Nat.le_refl _) (by rw [hz2]; omega) (by omega)
  rw [hz1] at hmk
  clear hz0 hz1 hz2 hi
  go_enter Tryz.func294, Tryz.ntmps294
  go_wp2_with (fail)
  go_loopw [4] (fun i wr => ∃ (j : Nat) (cur : Array Value) (os : Array Obj) (d : Nat) (S' : List Nat), j ≤ xs.length ∧ i = .int .i64 j ∧ Hid (wr = gro (w.alloc (.cells cur 193)) os d) ∧ Hid (Rows tSymbol (gro (w.alloc (.cells cur 193)) os d) (cur.toList.take (j * 3)) (xs.take j) S') ∧ Hid (S'.Nodup) ∧ Hid (∀ b ∈ S', w.heap.size + 1 ≤ b) ∧ Hid (cur.size = xs.length * 3)) (fun i _ => xs.length - (intOf i).toNat)
  case atStart => exact ⟨0, _, _, _, [], Nat.zero_le _, rfl, gro_refl, Lib.hid (by simp [Rows]), Lib.hid List.nodup_nil, Lib.hid (by simp), madeCells_size _ _⟩
  case round =>
    obtain ⟨j, cur, os, d, S', hj, rfl, hw, hr, hN, hL, hsz⟩ := hrel
    have hw' := hw.out
    subst hw'
    clear hw hmk
    by_cases hlt : j < xs.length
    · obtain ⟨g, off, x, rfl, hgb, hxk, hx0, hx1, hx2, bx0, bx1, bx2⟩ := atSymbol hx hlt
      have hjs : j * 3 + 2 < cur.size := by have := hsz.out; omega
      obtain ⟨o0, ho0⟩ : ∃ u, cur[j * 3]? = some u := ⟨_, Array.getElem?_eq_getElem (by omega)⟩
      obtain ⟨o1, ho1⟩ : ∃ u, (cur.setIfInBounds (j * 3) (.string x.Name))[j * 3 + 1]? = some u := ⟨_, Array.getElem?_eq_getElem (by simp only [Array.size_setIfInBounds]; omega)⟩
      obtain ⟨o2, ho2⟩ : ∃ u, ((cur.setIfInBounds (j * 3) (.string x.Name)).setIfInBounds (j * 3 + 1) (.int .i64 x.Start))[j * 3 + 2]? = some u := ⟨_, Array.getElem?_eq_getElem (by simp only [Array.size_setIfInBounds]; omega)⟩
      have HX := Lib.hid hxk
      have hszx : szSymbol x ≤ 1099511627776 := Nat.le_trans (szL_elem szSymbol hxk) hn
      clear hxk hx
      go_wp2_with (fail)
      refine (toSymbol_l (x := x) bx0 bx1 bx2 hszx).mono ?_
      rintro e w1 ⟨rfl, hF, os1, d1, rfl⟩
      go_wp2
      go_roundw
      case rel =>
        rw [gro_gro] at hF
        obtain ⟨S'', h1, h2, h3, h4⟩ := rows_put (T := tSymbol) hr.out hN.out hL.out hsz.out hlt HX.out hF (by rw [← gro_gro]; exact Gro.of _ _ _)
        exact ⟨j + 1, _, os ++ os1, d1, S'', by omega, by go_num, gro_gro _ _ _ _, h1, h2, h3, h4⟩
      case measure => simp [intOf]; omega
    · have hje : j = xs.length := by omega
      subst hje
      go_wp2
      go_ret
      exact rows_done hr.out hN.out hL.out hsz.out (Nat.le_refl _) (by omega)
set_option maxRecDepth 100000 in
theorem eqSymbolS_l {xs ys : List DSymbol} {w : World} {v u : Value} (hx : (tSymbol.sl 193).R w w.heap.size [v] xs) (hy : (tSymbol.sl 193).R w w.heap.size [u] ys) :
    Calls Tryz.prog 131 #[v, u] w fun e w' => e = .returned (.bool (decide (xs = ys))) ∧ Gro w w' := by
  obtain ⟨A, c, rfl, h1, h2⟩ := sl_at hx
  obtain ⟨A', c', rfl, k1, k2⟩ := sl_at hy
  by_cases hl : xs.length = ys.length
  · have hne : ((xs.length : Int) != (ys.length : Int)) = false := by simp [hl]
    have HL := Lib.hid hl
    clear hl
    go_enter Tryz.func131, Tryz.ntmps131
    go_wp2_with (fail)
    go_loopw [5] (fun i wr => ∃ k : Nat, k ≤ xs.length ∧ i = .int .i64 k ∧ Hid (Gro w wr) ∧ Hid (xs.take k = ys.take k)) (fun i _ => xs.length - (intOf i).toNat)
    case atStart => exact ⟨0, Nat.zero_le _, rfl, Gro.refl _, Lib.hid (by simp)⟩
    case round =>
      obtain ⟨k, hk, rfl, hG, HT⟩ := hrel
      obtain ⟨os, d, rfl⟩ := hG.out
      clear hG
      by_cases hlt : k < xs.length
      · have hlt2 : k < ys.length := by rw [← HL.out]; exact hlt
        obtain ⟨g, off, x, rfl, hgb, hxk, hx0, hx1, hx2, bx0, bx1, bx2⟩ := atSymbol hx hlt
        obtain ⟨g', off', y, rfl, hgb', hyk, hy0, hy1, hy2, by0, by1, by2⟩ := atSymbol hy hlt2
        have HX := Lib.hid hxk
        have HY := Lib.hid hyk
        clear hxk hyk hx hy
        by_cases hxy : x = y
        · subst hxy
          go_wp2_with (fail)
          go_region_held3 (fun w' => w'.cell? ⟨g, off + k * 3, none⟩ = some (.string x.Name) ∧ w'.cell? ⟨g, off + k * 3 + 1, none⟩ = some (.int .i64 x.Start) ∧ w'.cell? ⟨g, off + k * 3 + 2, none⟩ = some (.int .i64 x.Size) ∧ w'.cell? ⟨g', off' + k * 3, none⟩ = some (.string x.Name) ∧ w'.cell? ⟨g', off' + k * 3 + 1, none⟩ = some (.int .i64 x.Start) ∧ w'.cell? ⟨g', off' + k * 3 + 2, none⟩ = some (.int .i64 x.Size)) ((repeat' apply And.intro) <;> (first | ((repeat (first | assumption | with_reducible refine gro_keeps ?_ _ _ | with_reducible refine alloc_keeps ?_ _ | with_reducible refine drew_keeps ?_)); done) | (simp [go_sem]; done))) (first
            | (go_at_call 219; refine (eqSymbol_l (x := x) (y := x)).mono ?_; rintro e w1 ⟨rfl, os1, d1, rfl⟩))
          go_wp2
          go_roundw
          case rel => exact ⟨k + 1, by omega, by go_num, Lib.hid gG, Lib.hid (by rw [take_snoc HX.out, take_snoc HY.out, HT.out])⟩
          case measure => simp [intOf]; omega
        · have HXY := Lib.hid (show decide (x = y) = false from by simp [hxy])
          go_wp2_with (fail)
          go_region_held3 (fun w' => w'.cell? ⟨g, off + k * 3, none⟩ = some (.string x.Name) ∧ w'.cell? ⟨g, off + k * 3 + 1, none⟩ = some (.int .i64 x.Start) ∧ w'.cell? ⟨g, off + k * 3 + 2, none⟩ = some (.int .i64 x.Size) ∧ w'.cell? ⟨g', off' + k * 3, none⟩ = some (.string y.Name) ∧ w'.cell? ⟨g', off' + k * 3 + 1, none⟩ = some (.int .i64 y.Start) ∧ w'.cell? ⟨g', off' + k * 3 + 2, none⟩ = some (.int .i64 y.Size)) ((repeat' apply And.intro) <;> (first | ((repeat (first | assumption | with_reducible refine gro_keeps ?_ _ _ | with_reducible refine alloc_keeps ?_ _ | with_reducible refine drew_keeps ?_)); done) | (simp [go_sem]; done))) (first
            | (go_at_call 219; refine (eqSymbol_l (x := x) (y := y)).mono ?_; rw [HXY.out]; rintro e w1 ⟨rfl, os1, d1, rfl⟩))
          go_wp2
          go_ret
          refine ⟨ret_bool ?_, gG⟩
          symm
          simp only [decide_eq_false_iff_not]
          rintro rfl
          exact hxy (Option.some.inj (HX.out.symm.trans HY.out))
      · go_wp2
        go_ret
        refine ⟨ret_bool ?_, gG⟩
        have : k = xs.length := by omega
        subst this
        have h1 := HT.out
        rw [HL.out] at h1
        simp only [List.take_length] at h1
        rw [← HL.out] at h1
        simp at h1
        simp [h1]
  · have hne : ((xs.length : Int) != (ys.length : Int)) = true := by simp; omega
    go_enter Tryz.func131, Tryz.ntmps131
    go_wp2
    go_ret
    exact ⟨ret_bool (by symm; simp only [decide_eq_false_iff_not]; rintro rfl; exact hl rfl), Gro.refl _⟩
set_option maxRecDepth 100000 in
set_option maxHeartbeats 2000000 in
theorem markSymbolS_l {xs : List DSymbol} {w : World} {A : Option Addr} {n c : Nat} {k : Int} {S : List Nat} (hO : (tSymbol.sl 193).O w [.slice A n c] xs S) (hS : S.Nodup) (h0 : 0 < k) (h1 : k + cntSymbolS xs ≤ 1099511627776) :
    Calls Tryz.prog 138 #[.slice A n c, .int .i64 k] w fun e w' => e = .returned (.int .i64 (k + cntSymbolS xs)) ∧ (tSymbol.sl 193).O w' [.slice A n c] (mkSymbolS xs k) S ∧ OnlyS S w w' := by
  obtain ⟨_, _, hx, h2, h3⟩ := sl_at (Ty.read _ hO)
  injection hx with hA hn hc
  subst hA hn hc
  clear h3
  unfold cntSymbolS at h1 ⊢
  go_enter Tryz.func138, Tryz.ntmps138
  go_wp2_with (fail)
  go_loopw [1, 5] (fun a i wr => ∃ (j : Nat), j ≤ xs.length ∧ a = .int .i64 (k + j * 3) ∧ i = .int .i64 j ∧ Hid ((tSymbol.sl 193).O wr [.slice A xs.length c] (mkTo mkESymbol (fun _ => 3) xs k j) S) ∧ Hid (OnlyS S w wr)) (fun _ i _ => xs.length - (intOf i).toNat)
  case atStart => exact ⟨0, Nat.zero_le _, by simp, rfl, Lib.hid (by rw [mkTo_zero]; exact hO), OnlyS.refl _ _⟩
  case round =>
    obtain ⟨j, hj, rfl, rfl, ho, hs⟩ := hrel
    by_cases hlt : j < xs.length
    · have hxj : xs[j]? = some xs[j] := List.getElem?_eq_getElem hlt
      obtain ⟨g, ec, Sc, rfl, hgS, hgl, hgc, hSc, hO1, hfz, hcell, hset⟩ := own_put ho.out hS (mkTo_get hxj k)
      generalize hxe : xs[j] = x at hxj hO1
      clear hxe
      obtain ⟨rfl, rfl, _, _, _⟩ := tSymbol_O hO1
      have hc0 := hcell 0 _ rfl
      have hc1 := hcell 1 _ rfl
      have hc2 := hcell 2 _ rfl
      simp only [Nat.add_zero, show tSymbol.size = 3 from rfl] at hc0 hc1 hc2
      have hf0 := hfz (j * 3)
      have hf1 := hfz (j * 3 + 1)
      have hf2 := hfz (j * 3 + 2)
      have HX := Lib.hid hxj
      have HS := Lib.hid hset
      clear hcell hset hfz hxj hO hO1
      go_wp2_with (first | (go_at_call 105; refine (markText_l _ (by omega) (by omega) _).mono ?_; rintro e w1 ⟨rfl, os, d, rfl⟩))
      go_roundw
      case rel =>
        have h := HS.out [.string (markTx (k + j * 3)), .int .i64 (k + j * 3 + 1), .int .i64 (k + j * 3 + 1 + 1)] (mkESymbol x (k + j * 3)) (tSymbol_mkOd (x := mkESymbol x (k + j * 3)) (markTx_size _ (by omega) (by omega)) (show I64 (k + j * 3 + 1) from ⟨by omega, by omega⟩) (show I64 (k + j * 3 + 1 + 1) from ⟨by omega, by omega⟩))
        have e := mkTo_set (mk := mkESymbol) (cnt := fun _ => 3) HX.out k
        rw [cntL_const_take 3 (by omega), Int.natCast_mul] at e
        rw [show mkESymbol x (k + j * 3) = mkESymbol x (k + (j : Int) * ((3 : Nat) : Int)) from rfl, e] at h
        exact ⟨j + 1, by omega, by go_num, by go_num, Lib.hid (Ty.groO _ h.1 (Gro.of _ _ _)), Lib.hid ((hs.out.trans h.2).trans ((Gro.of _ _ _).only _))⟩
      case measure => simp [intOf]; omega
    · go_wp2
      have : j = xs.length := by omega
      subst this
      have ho' := ho.out
      rw [mkTo_all] at ho'
      go_ret
      exact ⟨rfl, ho', hs.out⟩
end Go.Proofs.YtgodpjnbhmahaaaGreat
namespace Go.Proofs.YtgodpjnbhmahaaaGreat
open Go.RowKit
def RetImage (x : DImage) (w : World) (r : Ending) (w' : World) : Prop := ∃ A0 c0, r = .returned (.agg #[.string x.Code, .slice A0 x.Symbols.length c0]) ∧ Fresh tImage w w' [.string x.Code, .slice A0 x.Symbols.length c0] x ∧ Gro w w'
theorem tImage_mkOd {w : World} {x : DImage} {A0 : Option Addr} {c0 : Nat} {S1 : List Nat} (h0 : x.Code.size ≤ 9223372036854775807) (h1 : (tSymbol.sl 193).O w [.slice A0 x.Symbols.length c0] x.Symbols S1) : tImage.O w [.string x.Code, .slice A0 x.Symbols.length c0] x (S1) := by
  have h : tImage.O w [.string x.Code, .slice A0 x.Symbols.length c0] x ([] ++ S1) := ⟨[.string x.Code], [.slice A0 x.Symbols.length c0], [], S1, rfl, rfl, ⟨rfl, h0, rfl⟩, h1⟩
  simpa using h
theorem eq_DImage {x y : DImage} : x = y ↔ x.Code = y.Code ∧ x.Symbols = y.Symbols := by
  cases x
  cases y
  simp
def szImage (x : DImage) : Nat := x.Code.size + szL szSymbol x.Symbols
set_option maxRecDepth 100000 in
theorem toImage_l {x : DImage} {w : World} {A0 : Option Addr} {c0 : Nat} (h0 : x.Code.size ≤ 9223372036854775807) (h1 : (tSymbol.sl 193).R w w.heap.size [.slice A0 x.Symbols.length c0] x.Symbols) (hn : szImage x ≤ 1099511627776) : Calls Tryz.prog 257 #[.agg #[.string x.Code, .slice A0 x.Symbols.length c0]] w (RetImage x w) := by
  unfold szImage at hn
  go_enter Tryz.func257, Tryz.ntmps257
  go_wp2_with (first
      | (go_at_call 294; (with_reducible refine (toSymbolS_l (xs := x.Symbols) (Ty.up _ h1 gG) (by omega)).mono ?_); rintro e w1 ⟨B0, d0, rfl, hF1, os1, dd1, rfl⟩))
  refine bodyPost_ret (v := .agg #[.string x.Code, .slice B0 x.Symbols.length d0]) (by simp [results, Tryz.results257, go_sem]) rfl ⟨B0, d0, rfl, ?_, gG⟩
  obtain ⟨S1, hO1, hN1, hL1⟩ := hF1
  have hU1 := Ty.ltO _ hO1
  have hL1' := hL1
  simp at hL1' hU1
  exact ⟨_, tImage_mkOd h0 (Ty.same _ hO1 hL1 (by repeat (first | with_reducible exact Same.refl _ _ _ | ((with_reducible refine Same.base ?_ ?_) <;> (simp <;> omega)) | ((with_reducible refine Same.more ?_ ?_ _ _); rotate_left; simp <;> omega) | ((with_reducible refine Same.alloc ?_ ?_ _); rotate_left; simp <;> omega) | with_reducible apply Same.drew | with_reducible apply Same.drewN))), hN1, fun b hb => (by have := hL1' b hb; omega)⟩
set_option maxRecDepth 100000 in
theorem szImage_l {x : DImage} {w : World} {left : Int} {A0 : Option Addr} {c0 : Nat} (h0 : x.Code.size ≤ 9223372036854775807) (h1 : (tSymbol.sl 193).R w w.heap.size [.slice A0 x.Symbols.length c0] x.Symbols) (h00 : 0 ≤ left) (h01 : left ≤ 1099511627776) : Calls Tryz.prog 239 #[.agg #[.string x.Code, .slice A0 x.Symbols.length c0], .int .i64 left] w fun e w' => e = .returned (.int .i64 (szRes left (szImage x))) ∧ Gro w w' := by
  obtain ⟨n0, hn0⟩ : ∃ n, x.Code.size = n := ⟨_, rfl⟩
  obtain ⟨n1, hn1⟩ : ∃ n, szL szSymbol x.Symbols = n := ⟨_, rfl⟩
  have HS := Lib.hid (show szImage x = n0 + n1 from by unfold szImage; rw [hn0, hn1])
  have HN0 := Lib.hid hn0
  clear hn0
  have HN1 := Lib.hid hn1
  clear hn1
  by_cases c0' : (n0 : Int) ≤ left
  · skip
    by_cases c1' : (n0 : Int) + (n1 : Int) ≤ left
    · skip
      have hx0 : x.Code.size = n0 := HN0.out
      have e1 : szRes (left - (n0 : Nat)) n1 = left - (n0 : Nat) - (n1 : Nat) := if_pos (by omega)
      go_enter Tryz.func239, Tryz.ntmps239
      go_wp2_with (first
      | (go_at_call 290; (with_reducible refine (szSymbolS_l (xs := x.Symbols) (Ty.up _ h1 gG) (by omega) (by omega)).mono ?_); rintro e w1 ⟨rfl, os1, d1, rfl⟩; rw [HN1.out]))
      go_ret
      exact ⟨ret_int (by rw [HS.out]; unfold szRes; rw [if_pos (by omega)] <;> omega), gG⟩
    · have hx0 : x.Code.size = n0 := HN0.out
      have e1 : szRes (left - (n0 : Nat)) n1 = -1 := if_neg (by omega)
      go_enter Tryz.func239, Tryz.ntmps239
      go_wp2_with (first
      | (go_at_call 290; (with_reducible refine (szSymbolS_l (xs := x.Symbols) (Ty.up _ h1 gG) (by omega) (by omega)).mono ?_); rintro e w1 ⟨rfl, os1, d1, rfl⟩; rw [HN1.out]))
      go_ret
      exact ⟨ret_int (by rw [HS.out]; unfold szRes; rw [if_neg (by omega)]), gG⟩
  · have hx0 : x.Code.size = n0 := HN0.out
    go_enter Tryz.func239, Tryz.ntmps239
    go_wp2
    go_ret
    exact ⟨ret_int (by rw [HS.out]; unfold szRes; rw [if_neg (by omega)]), gG⟩
set_option maxRecDepth 100000 in
theorem eqImage_l {x y : DImage} {w : World} {A0 : Option Addr} {c0 : Nat} {B0 : Option Addr} {d0 : Nat} (h1 : (tSymbol.sl 193).R w w.heap.size [.slice A0 x.Symbols.length c0] x.Symbols) (k1 : (tSymbol.sl 193).R w w.heap.size [.slice B0 y.Symbols.length d0] y.Symbols) : Calls Tryz.prog 258 #[.agg #[.string x.Code, .slice A0 x.Symbols.length c0], .agg #[.string y.Code, .slice B0 y.Symbols.length d0]] w fun e w' => e = .returned (.bool (decide (x = y))) ∧ Gro w w' := by
  go_enter Tryz.func258, Tryz.ntmps258
  go_wp2_with (first
      | (go_at_call 131; (with_reducible refine (eqSymbolS_l (xs := x.Symbols) (ys := y.Symbols) (Ty.up _ h1 gG) (Ty.up _ k1 gG)).mono ?_); rintro e w1 ⟨rfl, os1, d1, rfl⟩))
  all_goals
    go_ret
    refine ⟨ret_bool ?_, gG⟩
    simp_all [eq_DImage, toList_inj']
end Go.Proofs.YtgodpjnbhmahaaaGreat
namespace Go.Proofs.YtgodpjnbhmahaaaGreat
open Go.RowKit
theorem atImage {e : TypeId} {w : World} {B : Nat} {A : Option Addr} {n c : Nat} {xs : List DImage} (h : (tImage.sl e).R w B [.slice A n c] xs) {k : Nat} (hk : k < xs.length) :
    ∃ g off x A0 c0, A = some ⟨g, off, none⟩ ∧ g < B ∧ xs[k]? = some x ∧ w.cell? ⟨g, off + k * 2, none⟩ = some (.string x.Code) ∧ w.cell? ⟨g, off + k * 2 + 1, none⟩ = some (.slice A0 x.Symbols.length c0) ∧ x.Code.size ≤ 9223372036854775807 ∧ (tSymbol.sl 193).R w B [.slice A0 x.Symbols.length c0] x.Symbols := by
  obtain ⟨g, off, x, ec, h1, hB, h2, h3, h4⟩ := elem_at h hk
  obtain ⟨A0, c0, rfl, hf⟩ := tImage_R h3
  exact ⟨g, off, x, A0, c0, h1, hB, h2, h4 0 _ rfl, h4 1 _ rfl, hf⟩
def mkEImage (x : DImage) (k : Int) : DImage := ⟨markTx k, mkSymbolS x.Symbols (k + 1)⟩
def cntEImage (x : DImage) : Nat := 1 + cntSymbolS x.Symbols
def mkImageS (xs : List DImage) (k : Int) : List DImage := mkL mkEImage cntEImage xs k
def cntImageS (xs : List DImage) : Nat := cntL cntEImage xs
theorem mkImageS_length (xs : List DImage) (k : Int) : (mkImageS xs k).length = xs.length := mkL_length _ _
theorem cntEImage_eq (x : DImage) : cntEImage x = 1 + cntSymbolS x.Symbols := rfl
theorem toImageS_info : (Tryz.prog.info? 113).map (fun i => (i.zero, i.size, i.bytes)) = some (some (.agg #[.string ⟨#[]⟩, .slice none 0 0]), 2, 40) := by kernel_rfl
set_option maxRecDepth 100000 in
theorem szImageS_l {xs : List DImage} {w : World} {v : Value} {left : Int} (hx : (tImage.sl 113).R w w.heap.size [v] xs) (h0 : 0 ≤ left) (h1 : left ≤ 1099511627776) :
    Calls Tryz.prog 149 #[v, .int .i64 left] w fun e w' => e = .returned (.int .i64 (szRes left (szL szImage xs))) ∧ Gro w w' := by
  obtain ⟨A, c, rfl, h2, h3⟩ := sl_at hx
  by_cases h : (xs.length : Int) ≤ left
  · go_enter Tryz.func149, Tryz.ntmps149
    go_wp2_with (fail)
    go_loopw [1, 5] (fun a i wr => ∃ (j s : Nat), j ≤ xs.length ∧ Hid (s = ((xs.take j).map szImage).sum) ∧ (xs.length : Int) + s ≤ left ∧ a = .int .i64 (left - xs.length - s) ∧ i = .int .i64 j ∧ Hid (Gro w wr)) (fun _ i _ => xs.length - (intOf i).toNat)
    case atStart => exact ⟨0, 0, Nat.zero_le _, rfl, by omega, by simp, rfl, Gro.refl _⟩
    case round =>
      obtain ⟨j, s, hj, hs, hle, rfl, rfl, hG⟩ := hrel
      obtain ⟨os, d, rfl⟩ := hG.out
      clear hG
      by_cases hlt : j < xs.length
      · obtain ⟨g, off, x, A0, c0, rfl, hgb, hxk, hx0, hx1, bx0, bx1⟩ := atImage hx hlt
        have HX := Lib.hid (szSnoc szImage hxk)
        have HM := Lib.hid (szLe szImage xs (j + 1))
        obtain ⟨n0, hn0⟩ : ∃ n, szImage x = n := ⟨_, rfl⟩
        have HN := Lib.hid hn0
        clear hxk hx hn0
        by_cases hsz : (xs.length : Int) + s + n0 ≤ left
        · have HR := Lib.hid (show szRes (left - xs.length - s) n0 = left - xs.length - s - n0 from if_pos (by omega))
          go_wp2_with (go_at_call 239; refine (szImage_l (x := x) bx0 (Ty.up _ bx1 gG) (by omega) (by omega)).mono ?_; rw [HN.out, HR.out]; rintro e w1 ⟨rfl, os1, d1, rfl⟩)
          go_roundw
          case rel => exact ⟨j + 1, s + n0, by omega, Lib.hid (by rw [hs.out, HX.out, HN.out]), by omega, by go_num, by go_num, Lib.hid gG⟩
          case measure => simp [intOf]; omega
        · have HR := Lib.hid (show szRes (left - xs.length - s) n0 = -1 from if_neg (by omega))
          have HQ := Lib.hid (show szRes left (szL szImage xs) = -1 from if_neg (by have h1 := HX.out; have h2 := HM.out; have h3 := hs.out; have h4 := HN.out; unfold szL; omega))
          go_wp2_with (go_at_call 239; refine (szImage_l (x := x) bx0 (Ty.up _ bx1 gG) (by omega) (by omega)).mono ?_; rw [HN.out, HR.out]; rintro e w1 ⟨rfl, os1, d1, rfl⟩)
          go_ret
          exact ⟨ret_int HQ.out.symm, gG⟩
      · go_wp2
        go_ret
        exact ⟨ret_int (by
          have h3 := hs.out
          rw [szAll szImage (show j = xs.length by omega)] at h3
          unfold szRes szL
          rw [if_pos (by omega)]
          omega), gG⟩
  · have HR := Lib.hid (show szRes left (szL szImage xs) = -1 from if_neg (by unfold szL; omega))
    go_enter Tryz.func149, Tryz.ntmps149
    go_wp2
    go_ret
    exact ⟨ret_int HR.out.symm, Gro.refl _⟩
set_option maxHeartbeats 8000000 in
set_option maxRecDepth 100000 in
theorem toImageS_l {xs : List DImage} {w : World} {v : Value} (hx : (tImage.sl 113).R w w.heap.size [v] xs) (hn : szL szImage xs ≤ 1099511627776) :
    Calls Tryz.prog 154 #[v] w (RetSl tImage 113 xs w) := by
  obtain ⟨A, c, rfl, h2, h3⟩ := sl_at hx
  obtain ⟨i0, hi, hz0, hz1, hz2⟩ := info_parts toImageS_info
  have hn1 : xs.length ≤ 1099511627776 := Nat.le_trans (szL_len _ _) hn
  have hmk := run_make_rowN (P := Tryz.prog) 25 113 i0 _ Tryz.underlying25 hi hz0 .i64 .i64 xs.length xs.length (Nat.le_refl _) (by rw [hz2]; omega) (by omega)
  rw [hz1] at hmk
  clear hz0 hz1 hz2 hi
  go_enter Tryz.func154, Tryz.ntmps154
  go_wp2_with (fail)
  go_loopw [4] (fun i wr => ∃ (j : Nat) (cur : Array Value) (os : Array Obj) (d : Nat) (S' : List Nat), j ≤ xs.length ∧ i = .int .i64 j ∧ Hid (wr = gro (w.alloc (.cells cur 113)) os d) ∧ Hid (Rows tImage (gro (w.alloc (.cells cur 113)) os d) (cur.toList.take (j * 2)) (xs.take j) S') ∧ Hid (S'.Nodup) ∧ Hid (∀ b ∈ S', w.heap.size + 1 ≤ b) ∧ Hid (cur.size = xs.length * 2)) (fun i _ => xs.length - (intOf i).toNat)
  case atStart => exact ⟨0, _, _, _, [], Nat.zero_le _, rfl, gro_refl, Lib.hid (by simp [Rows]), Lib.hid List.nodup_nil, Lib.hid (by simp), madeCells_size _ _⟩
  case round =>
    obtain ⟨j, cur, os, d, S', hj, rfl, hw, hr, hN, hL, hsz⟩ := hrel
    have hw' := hw.out
    subst hw'
    clear hw hmk
    by_cases hlt : j < xs.length
    · obtain ⟨g, off, x, A0, c0, rfl, hgb, hxk, hx0, hx1, bx0, bx1⟩ := atImage hx hlt
      have hjs : j * 2 + 1 < cur.size := by have := hsz.out; omega
      have HX := Lib.hid hxk
      have hszx : szImage x ≤ 1099511627776 := Nat.le_trans (szL_elem szImage hxk) hn
      clear hxk hx
      go_wp2_with (fail)
      refine (toImage_l (x := x) bx0 (Ty.up _ bx1 gG) hszx).mono ?_
      rintro e w1 ⟨B0, f0, rfl, hF, os1, d1, rfl⟩
      obtain ⟨o0, ho0⟩ : ∃ u, cur[j * 2]? = some u := ⟨_, Array.getElem?_eq_getElem (by omega)⟩
      obtain ⟨o1, ho1⟩ : ∃ u, (cur.setIfInBounds (j * 2) (.string x.Code))[j * 2 + 1]? = some u := ⟨_, Array.getElem?_eq_getElem (by simp only [Array.size_setIfInBounds]; omega)⟩
      go_wp2
      go_roundw
      case rel =>
        rw [gro_gro] at hF
        obtain ⟨S'', h1, h2, h3, h4⟩ := rows_put (T := tImage) hr.out hN.out hL.out hsz.out hlt HX.out hF (by rw [← gro_gro]; exact Gro.of _ _ _)
        exact ⟨j + 1, _, os ++ os1, d1, S'', by omega, by go_num, gro_gro _ _ _ _, h1, h2, h3, h4⟩
      case measure => simp [intOf]; omega
    · have hje : j = xs.length := by omega
      subst hje
      go_wp2
      go_ret
      exact rows_done hr.out hN.out hL.out hsz.out (Nat.le_refl _) (by omega)
set_option maxHeartbeats 8000000 in
set_option maxRecDepth 100000 in
theorem eqImageS_l {xs ys : List DImage} {w : World} {v u : Value} (hx : (tImage.sl 113).R w w.heap.size [v] xs) (hy : (tImage.sl 113).R w w.heap.size [u] ys) :
    Calls Tryz.prog 156 #[v, u] w fun e w' => e = .returned (.bool (decide (xs = ys))) ∧ Gro w w' := by
  obtain ⟨A, c, rfl, h1, h2⟩ := sl_at hx
  obtain ⟨A', c', rfl, k1, k2⟩ := sl_at hy
  by_cases hl : xs.length = ys.length
  · have hne : ((xs.length : Int) != (ys.length : Int)) = false := by simp [hl]
    have HL := Lib.hid hl
    clear hl
    go_enter Tryz.func156, Tryz.ntmps156
    go_wp2_with (fail)
    go_loopw [5] (fun i wr => ∃ k : Nat, k ≤ xs.length ∧ i = .int .i64 k ∧ Hid (Gro w wr) ∧ Hid (xs.take k = ys.take k)) (fun i _ => xs.length - (intOf i).toNat)
    case atStart => exact ⟨0, Nat.zero_le _, rfl, Gro.refl _, Lib.hid (by simp)⟩
    case round =>
      obtain ⟨k, hk, rfl, hG, HT⟩ := hrel
      obtain ⟨os, d, rfl⟩ := hG.out
      clear hG
      by_cases hlt : k < xs.length
      · have hlt2 : k < ys.length := by rw [← HL.out]; exact hlt
        obtain ⟨g, off, x, A0, c0, rfl, hgb, hxk, hx0, hx1, bx0, bx1⟩ := atImage hx hlt
        obtain ⟨g', off', y, B0, e0, rfl, hgb', hyk, hy0, hy1, by0, by1⟩ := atImage hy hlt2
        have HX := Lib.hid hxk
        have HY := Lib.hid hyk
        clear hxk hyk hx hy
        by_cases hxy : x = y
        · subst hxy
          go_wp2_with (fail)
          go_region_held3 (fun w' => w'.cell? ⟨g, off + k * 2, none⟩ = some (.string x.Code) ∧ w'.cell? ⟨g, off + k * 2 + 1, none⟩ = some (.slice A0 x.Symbols.length c0) ∧ w'.cell? ⟨g', off' + k * 2, none⟩ = some (.string x.Code) ∧ w'.cell? ⟨g', off' + k * 2 + 1, none⟩ = some (.slice B0 x.Symbols.length e0)) ((repeat' apply And.intro) <;> (first | ((repeat (first | assumption | with_reducible refine gro_keeps ?_ _ _ | with_reducible refine alloc_keeps ?_ _ | with_reducible refine drew_keeps ?_)); done) | (simp [go_sem]; done))) (first
            | (go_at_call 258; refine (eqImage_l (x := x) (y := x) (Ty.up _ bx1 gG) (Ty.up _ by1 gG)).mono ?_; rintro e w1 ⟨rfl, os1, d1, rfl⟩))
          go_wp2
          go_roundw
          case rel => exact ⟨k + 1, by omega, by go_num, Lib.hid gG, Lib.hid (by rw [take_snoc HX.out, take_snoc HY.out, HT.out])⟩
          case measure => simp [intOf]; omega
        · have HXY := Lib.hid (show decide (x = y) = false from by simp [hxy])
          go_wp2_with (fail)
          go_region_held3 (fun w' => w'.cell? ⟨g, off + k * 2, none⟩ = some (.string x.Code) ∧ w'.cell? ⟨g, off + k * 2 + 1, none⟩ = some (.slice A0 x.Symbols.length c0) ∧ w'.cell? ⟨g', off' + k * 2, none⟩ = some (.string y.Code) ∧ w'.cell? ⟨g', off' + k * 2 + 1, none⟩ = some (.slice B0 y.Symbols.length e0)) ((repeat' apply And.intro) <;> (first | ((repeat (first | assumption | with_reducible refine gro_keeps ?_ _ _ | with_reducible refine alloc_keeps ?_ _ | with_reducible refine drew_keeps ?_)); done) | (simp [go_sem]; done))) (first
            | (go_at_call 258; refine (eqImage_l (x := x) (y := y) (Ty.up _ bx1 gG) (Ty.up _ by1 gG)).mono ?_; rw [HXY.out]; rintro e w1 ⟨rfl, os1, d1, rfl⟩))
          go_wp2
          go_ret
          refine ⟨ret_bool ?_, gG⟩
          symm
          simp only [decide_eq_false_iff_not]
          rintro rfl
          exact hxy (Option.some.inj (HX.out.symm.trans HY.out))
      · go_wp2
        go_ret
        refine ⟨ret_bool ?_, gG⟩
        have : k = xs.length := by omega
        subst this
        have h1 := HT.out
        rw [HL.out] at h1
        simp only [List.take_length] at h1
        rw [← HL.out] at h1
        simp at h1
        simp [h1]
  · have hne : ((xs.length : Int) != (ys.length : Int)) = true := by simp; omega
    go_enter Tryz.func156, Tryz.ntmps156
    go_wp2
    go_ret
    exact ⟨ret_bool (by symm; simp only [decide_eq_false_iff_not]; rintro rfl; exact hl rfl), Gro.refl _⟩
set_option maxRecDepth 100000 in
set_option maxHeartbeats 4000000 in
theorem markImageS_l {xs : List DImage} {w : World} {A : Option Addr} {n c : Nat} {k : Int} {S : List Nat} (hO : (tImage.sl 113).O w [.slice A n c] xs S) (hS : S.Nodup) (h0 : 0 < k) (h1 : k + (cntImageS xs : Nat) ≤ 1099511627776) :
    Calls Tryz.prog 158 #[.slice A n c, .int .i64 k] w fun e w' => e = .returned (.int .i64 (k + (cntImageS xs : Nat))) ∧ (tImage.sl 113).O w' [.slice A n c] (mkImageS xs k) S ∧ OnlyS S w w' := by
  obtain ⟨_, _, hx, h2, h3⟩ := sl_at (Ty.read _ hO)
  injection hx with hA hn hc
  subst hA hn hc
  have h3c := h3
  clear h3
  unfold cntImageS at h1 ⊢
  go_enter Tryz.func158, Tryz.ntmps158
  go_wp2_with (fail)
  go_loopw [1, 5] (fun a i wr => ∃ (j q : Nat), j ≤ xs.length ∧ a = .int .i64 (k + q) ∧ i = .int .i64 j ∧ Hid (cntL cntEImage (xs.take j) = q) ∧ Hid ((tImage.sl 113).O wr [.slice A xs.length c] (mkTo mkEImage cntEImage xs k j) S) ∧ Hid (OnlyS S w wr)) (fun _ i _ => xs.length - (intOf i).toNat)
  case atStart => exact ⟨0, 0, Nat.zero_le _, by simp, rfl, Lib.hid (by simp [cntL]), Lib.hid (by rw [mkTo_zero]; exact hO), OnlyS.refl _ _⟩
  case round =>
    obtain ⟨j, q, hj, rfl, rfl, hq, ho, hs⟩ := hrel
    by_cases hlt : j < xs.length
    · have hxj : xs[j]? = some xs[j] := List.getElem?_eq_getElem hlt
      obtain ⟨g, ec, Sc, cur, rfl, hgS, hgl, hgc, hSc, hNc, hO1, hb, hcs, hcell, hset⟩ := own_mix ho.out hS (mkTo_get hxj k)
      generalize hxe : xs[j] = x at hxj hO1
      clear hxe
      have hqs : q + cntEImage x ≤ cntL cntEImage xs := by
        have := cntL_snoc (cnt := cntEImage) hxj
        have h9 := cntL_take_le (cnt := cntEImage) xs (j + 1)
        have := hq.out
        omega
      have hq2 := Lib.hid (show cntL cntEImage (xs.take (j + 1)) = q + cntEImage x from by rw [cntL_snoc hxj, hq.out])
      rw [cntEImage_eq] at hqs
      obtain ⟨A0, c0, S0, hcl, hSS, _, hO0⟩ := tImage_O hO1
      subst hcl
      have hSS' := hSS.symm
      subst hSS'
      have hr0 := hcell 0 _ rfl
      have hr1 := hcell 1 _ rfl
      simp only [Nat.add_zero, show tImage.size = 2 from rfl] at hcs hset hr0 hr1
      have hc0 : wr.cell? ⟨g, j * 2, none⟩ = some (.string x.Code) := (cell_of_row wr g _ cur _ (0, 0) hb).trans hr0
      have hc1 : wr.cell? ⟨g, j * 2 + 1, none⟩ = some (.slice A0 x.Symbols.length c0) := (cell_of_row wr g _ cur _ (0, 0) hb).trans hr1
      have hf0 := frz_blk hb (j * 2)
      have hf1 := frz_blk hb (j * 2 + 1)
      have HX := Lib.hid hxj
      have HS := Lib.hid hset
      have hN0 := hNc
      clear hcell hset hxj hO hO1
      have hL0 := Ty.ltO _ hO0
      have hg0 : g ∉ S0 := fun hm => hgc (by simp [hm])
      go_wp2_with (first | (go_at_call 105; refine (markText_l _ (by omega) (by omega) _).mono ?_; rintro e w9 ⟨rfl, os, d, rfl⟩))
      refine (markSymbolS_l (xs := x.Symbols) (keepS _ hO0 (((OnlyS.refl [g] wr).setCell (p := ⟨g, _, none⟩) (by simp) _).trans ((Gro.of _ _ _).only _)) (not_one hg0)) hN0 (by omega) (by omega)).mono ?_
      rintro e w1 ⟨rfl, hM0, hs1⟩
      have hb1 : w1.heap[g]? = some (.cells (cur.setIfInBounds (j * 2) (.string (markTx (k + (q : Int))))) _ (0, 0)) := (hs1.block g (Nat.lt_of_lt_of_le hgl ((((OnlyS.refl [g] wr).setCell (p := ⟨g, _, none⟩) (by simp) _).trans ((Gro.of _ _ _).only _))).size) hg0).trans (grow_blk (heap_setCell_at hb _ _) (Gro.of _ _ _))
      have hon1 : OnlyS ([g] ++ S0) wr w1 := ((((OnlyS.refl [g] wr).setCell (p := ⟨g, _, none⟩) (by simp) _).trans ((Gro.of _ _ _).only _)).mono (fun b hb => by simp at hb; simp [hb])).trans (hs1.mono (fun b hb => by simp [hb]))
      obtain ⟨cur1, he1⟩ : ∃ c, (cur.setIfInBounds (j * 2) (.string (markTx (k + (q : Int))))) = c := ⟨_, rfl⟩
      rw [he1] at hb1
      have hr1_0 : cur1[j * 2]? = some (.string (markTx (k + (q : Int)))) := by rw [← he1]; exact Array.getElem?_setIfInBounds_self_of_lt (by (try simp only [Array.size_setIfInBounds]); omega)
      have hc1_0 : w1.cell? ⟨g, j * 2, none⟩ = some (.string (markTx (k + (q : Int)))) := (cell_of_row w1 g _ cur1 _ (0, 0) hb1).trans hr1_0
      have hf1_0 := frz_blk hb1 (j * 2)
      have hr1_1 : cur1[j * 2 + 1]? = some (.slice A0 x.Symbols.length c0) := by rw [← he1]; rw [Array.getElem?_setIfInBounds_ne (by omega)]; exact hr1
      have hc1_1 : w1.cell? ⟨g, j * 2 + 1, none⟩ = some (.slice A0 x.Symbols.length c0) := (cell_of_row w1 g _ cur1 _ (0, 0) hb1).trans hr1_1
      have hf1_1 := frz_blk hb1 (j * 2 + 1)
      have hz1 : cur1.size = cur.size := by (first | (rw [← he1]; done) | (rw [← he1]; simp only [Array.size_setIfInBounds]))
      have ho1 : ∀ i, i < j * 2 ∨ j * 2 + 2 ≤ i → cur1[i]? = cur[i]? := fun i hi => by rw [← he1]; rw [Array.getElem?_setIfInBounds_ne (by omega)]
      have HE1 := Lib.hid he1
      clear he1
      have hgl1 : g < w1.heap.size := Nat.lt_of_lt_of_le hgl hon1.size
      clear hc0 hf0 hc1 hf1
      go_wp2_with (first | (go_at_call 105; refine (markText_l _ (by omega) (by omega) _).mono ?_; rintro e w9 ⟨rfl, os, d, rfl⟩))
      go_roundw
      case rel =>
        have e := mkTo_set (mk := mkEImage) (cnt := cntEImage) HX.out k
        rw [hq.out] at e
        refine ⟨j + 1, q + cntEImage x, by omega, ?_, by go_num, hq2, Lib.hid ?_, Lib.hid ?_⟩
        · exact congrArg (Value.int .i64) (by rw [cntEImage_eq]; push_cast; omega)
        · rw [← e]
          have hOO : ∀ W, OnlyS [g] w1 W → tImage.O W [.string (markTx (k + (q : Int))), .slice A0 x.Symbols.length c0] (mkEImage x (k + (q : Int))) (S0) := fun W hW => by
            have h := (tImage_mkOd (x := (mkEImage x (k + (q : Int)))) (markTx_size _ (by omega) (by omega)) (keepS _ (by simpa [mkEImage, mkSymbolS_length] using hM0) hW (not_one hg0)))
            simpa [mkEImage, mkSymbolS_length] using h
          refine HS.out _ _ _ _ (hOO _ (OnlyS.refl [g] w1)) hb1 ?_ ?_ ?_ ?_
          · simp only [Array.size_setIfInBounds, hz1]
          · intro i hi
            rw [ho1 i hi]
          · intro t u hu
            exact match t, hu with
            | 0, hu => by
              cases hu
              exact hr1_0
            | 1, hu => by
              cases hu
              exact hr1_1
            | t + 2, hu => by simp at hu
          · exact ((hon1.mono (fun b hb => by simp at hb ⊢; rcases hb with h | h <;> simp [h])).trans ((OnlyS.refl [g] w1).mono (fun b hb => by simp at hb; simp [hb])))
        · exact hs.out.trans ((((hon1.mono (fun b hb => by simp at hb ⊢; rcases hb with h | h <;> simp [h])).trans ((OnlyS.refl [g] w1).mono (fun b hb => by simp at hb; simp [hb]))) : OnlyS (g :: (S0)) wr _).mono (fun b hb => by
            rcases List.mem_cons.1 hb with rfl | hb
            · exact hgS
            · exact hSc b (by simpa using hb)))
      case measure => simp [intOf]; omega
    · go_wp2
      have : j = xs.length := by omega
      subst this
      have ho' := ho.out
      rw [mkTo_all] at ho'
      have hq' := hq.out
      rw [List.take_length] at hq'
      go_ret
      exact ⟨ret_int (by rw [hq']), ho', hs.out⟩
end Go.Proofs.YtgodpjnbhmahaaaGreat
